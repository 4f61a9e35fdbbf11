import PyProof.Rows.All
import Wide.All
import OpenK.AllK
import Wide.FinOn
import HandS.ForMost
import HandS.ForExc
import HandS.ForDict
import HandS.ExcOwn
import HandS.WordsExc
import HandS.DictTup
import HandS.TupAny
import HandS.TupLen
import HandS.IsInst
import HandS.Zip
import HandS.Lambda
import KE.SortData
import KE.DataEq
import KE.DataFind
import KE.DataCmp
import KE.DataMinMax
import HandS.TupSets
import HandS.Defaults
import HandS.TupMul
import HandS.Conv
import HandS.HeadHook1
import PyProof.ExcBaseAll.ValueError
import KE.KDictDisplayH
import HandS.Iter
import KE.KDictSum
import HandS.Style
import PyProof.Claim2Refuses
import KE.GoesMore
import KE.GoesEnum
import HandS.ExcIs
import PySem.Challenge.RW_wallholds_k09_tops
import HandS.HeadHook4
import HandS.HeadEnd
import HandS.CallLocal
import HandS.Head0
import HandS.Head1
import HandS.Head2
import HandS.HeadHook2
import HandS.HeadWalk
set_option Elab.async false
set_option linter.all false
set_option maxRecDepth 100000
set_option maxHeartbeats 1000000
/-! The value layer: data, what stands for them in a heap of which some places are hidden, readings over data. -/
namespace WL
open PySem PySem.Spec PyProof.Rows L2

/-! ### heaps with hidden places -/
noncomputable def hide (H : Hp) (X : Addr → Prop) : Hp := fun a => @ite _ (X a) (Classical.propDecidable _) none (H a)
theorem hide_of {H : Hp} {X : Addr → Prop} {a : Addr} {o : HO} (h : H a = some o) (n : ¬ X a) : hide H X a = some o := by
  unfold hide
  rw [if_neg n]
  exact h
theorem of_hide {H : Hp} {X : Addr → Prop} {a : Addr} {o : HO} (h : hide H X a = some o) : H a = some o ∧ ¬ X a := by
  unfold hide at h
  by_cases x : X a
  · rw [if_pos x] at h
    cases h
  · rw [if_neg x] at h
    exact ⟨h, x⟩
/-- the one heap is in the other -/
abbrev Sub (I I' : Hp) : Prop := ∀ a o, I a = some o → I' a = some o
theorem sub_hide {H : Hp} {X : Addr → Prop} : Sub (hide H X) H := fun _ _ h => (of_hide h).1
mutual
/-- the value stands for the data, in the heap I (its lists and tuples are tracked there) -/
inductive Dq (I : Hp) : V → PyData → Prop
  | non : Dq I .non .none
  | bl (b : Bool) : Dq I (.bl b) (.bool b)
  | int (i : Int) : Dq I (.int i) (.int i)
  | str (x : Str) : Dq I (.str x) (.str x)
  | lst {a : Addr} {xs : List V} {ds : List PyData} : I a = some (.lst xs) → DqA I xs ds → Dq I (.ref a) (.list ds)
  | tup {a : Addr} {o : Obj} {xs : List V} {ds : List PyData} : I a = some (.frz o (.tup xs)) → o.dict = none → DqA I xs ds → Dq I (.ref a) (.tuple ds)
inductive DqA (I : Hp) : List V → List PyData → Prop
  | nil : DqA I [] []
  | cons {v : V} {vs : List V} {d : PyData} {ds : List PyData} : Dq I v d → DqA I vs ds → DqA I (v :: vs) (d :: ds)
end
mutual
theorem dq_sub {I I' : Hp} (s : Sub I I') : ∀ (d : PyData) (v : V), Dq I v d → Dq I' v d
  | .none, _, h => by cases h; exact .non
  | .bool b, _, h => by cases h; exact .bl b
  | .int i, _, h => by cases h; exact .int i
  | .str x, _, h => by cases h; exact .str x
  | .list ds, _, h => by
    cases h with
    | lst hs ha => exact .lst (s _ _ hs) (dqA_sub s ds _ ha)
  | .tuple ds, _, h => by
    cases h with
    | tup hs hd ha => exact .tup (s _ _ hs) hd (dqA_sub s ds _ ha)
  | .dict _, _, h => by cases h
theorem dqA_sub {I I' : Hp} (s : Sub I I') : ∀ (ds : List PyData) (vs : List V), DqA I vs ds → DqA I' vs ds
  | [], _, h => by cases h; exact .nil
  | d :: ds, _, h => by
    cases h with
    | cons h1 h2 => exact .cons (dq_sub s d _ h1) (dqA_sub s ds _ h2)
end
mutual
theorem dq_dp {K : PySem.W.Frag} {I : Hp} : ∀ (d : PyData) (v : V), Dq I v d → Dp K I v d
  | .none, _, h => by cases h; exact .non
  | .bool b, _, h => by cases h; exact .bl b
  | .int i, _, h => by cases h; exact .int i
  | .str x, _, h => by cases h; exact .str x
  | .list ds, _, h => by
    cases h with
    | lst hs ha => exact .lst (.of hs) (dqA_dp ds _ ha)
  | .tuple ds, _, h => by
    cases h with
    | tup hs _ ha => exact .tup (.inl (.inr ⟨_, hs⟩)) (dqA_dp ds _ ha)
  | .dict _, _, h => by cases h
theorem dqA_dp {K : PySem.W.Frag} {I : Hp} : ∀ (ds : List PyData) (vs : List V), DqA I vs ds → DpAll K I vs ds
  | [], _, h => by cases h; exact .nil
  | d :: ds, _, h => by
    cases h with
    | cons h1 h2 => exact .cons (dq_dp d _ h1) (dqA_dp ds _ h2)
end
section
variable {I : Hp}
theorem DqA.length : ∀ {vs : List V} {ds : List PyData}, DqA I vs ds → vs.length = ds.length
  | _, _, .nil => rfl
  | _, _, .cons _ t => congrArg (· + 1) (DqA.length t)
theorem DqA.append : ∀ {vs ws : List V} {ds es : List PyData}, DqA I vs ds → DqA I ws es → DqA I (vs ++ ws) (ds ++ es)
  | _, _, _, _, .nil, h => h
  | _, _, _, _, .cons r t, h => .cons r (DqA.append t h)
theorem DqA.get : ∀ {vs : List V} {ds : List PyData} {i : Nat} {d : PyData}, DqA I vs ds → ds[i]? = some d → ∃ v, vs[i]? = some v ∧ Dq I v d
  | _, _, _, _, .nil, e => by simp at e
  | _, _, 0, _, .cons r _, e => by simp at e; subst e; exact ⟨_, rfl, r⟩
  | _, _, i + 1, _, .cons _ t, e => by
    obtain ⟨v, h1, h2⟩ := DqA.get (i := i) t (by simpa using e)
    exact ⟨v, by simpa using h1, h2⟩
theorem DqA.getV : ∀ {vs : List V} {ds : List PyData} {i : Nat} {v : V}, DqA I vs ds → vs[i]? = some v → ∃ d, ds[i]? = some d ∧ Dq I v d
  | _, _, _, _, .nil, e => by simp at e
  | _, _, 0, _, .cons r _, e => by simp at e; subst e; exact ⟨_, rfl, r⟩
  | _, _, i + 1, _, .cons _ t, e => by
    obtain ⟨d, h1, h2⟩ := DqA.getV (i := i) t (by simpa using e)
    exact ⟨d, by simpa using h1, h2⟩
theorem DqA.take : ∀ {vs : List V} {ds : List PyData} (n : Nat), DqA I vs ds → DqA I (vs.take n) (ds.take n)
  | _, _, 0, _ => .nil
  | _, _, _ + 1, .nil => .nil
  | _, _, n + 1, .cons r t => .cons r (DqA.take n t)
theorem DqA.drop : ∀ {vs : List V} {ds : List PyData} (n : Nat), DqA I vs ds → DqA I (vs.drop n) (ds.drop n)
  | _, _, 0, r => r
  | _, _, _ + 1, .nil => .nil
  | _, _, n + 1, .cons _ t => DqA.drop n t
theorem DqA.eraseIdx : ∀ {vs : List V} {ds : List PyData} (n : Nat), DqA I vs ds → DqA I (vs.eraseIdx n) (ds.eraseIdx n)
  | _, _, _, .nil => .nil
  | _, _, 0, .cons _ t => t
  | _, _, n + 1, .cons r t => .cons r (DqA.eraseIdx n t)
theorem DqA.dropLast {vs : List V} {ds : List PyData} (h : DqA I vs ds) : DqA I vs.dropLast ds.dropLast := by
  rw [List.dropLast_eq_take, List.dropLast_eq_take, h.length]
  exact h.take _
theorem DqA.reverse : ∀ {vs : List V} {ds : List PyData}, DqA I vs ds → DqA I vs.reverse ds.reverse
  | _, _, .nil => .nil
  | _, _, .cons r t => by
    rw [List.reverse_cons, List.reverse_cons]
    exact (DqA.reverse t).append (.cons r .nil)
theorem DqA.rep {vs : List V} {ds : List PyData} (h : DqA I vs ds) : ∀ k : Nat, DqA I (List.replicate k vs).flatten (List.replicate k ds).flatten
  | 0 => .nil
  | k + 1 => by
    simp only [List.replicate_succ, List.flatten_cons]
    exact h.append (DqA.rep h k)
theorem DqA.ints : ∀ {ns : List Int} {vs : List V}, DqA I vs (ns.map PyData.int) → vs = ns.map V.int
  | [], _, h => by cases h; rfl
  | n :: ns, _, h => by
    cases h with
    | cons h1 h2 =>
      cases h1
      rw [DqA.ints h2]
      rfl
theorem DqA.ofInts : ∀ (ns : List Int), DqA I (ns.map V.int) (ns.map PyData.int)
  | [] => .nil
  | n :: ns => .cons (.int n) (DqA.ofInts ns)
theorem DqA.cons_inv {vs : List V} {d : PyData} {ds : List PyData} (h : DqA I vs (d :: ds)) : ∃ v ws, vs = v :: ws ∧ Dq I v d ∧ DqA I ws ds := by
  cases h with
  | cons h1 h2 => exact ⟨_, _, rfl, h1, h2⟩
theorem DqA.nil_inv {vs : List V} (h : DqA I vs []) : vs = [] := by
  cases h
  rfl
end

/-! ### data, values, slots -/
/-- a dict whose keys are tuples of ints, by its entries: key, the key's tuple, value -/
abbrev Ent := List Int × Addr × V
def EntR (p : Ent) (q : List Int × Addr × Value) : Prop := p.1 = q.1 ∧ p.2.1 = q.2.1 ∧ RelV p.2.2 q.2.2
def DXat (h : Heap) (a : Addr) (L : List Ent) : Prop := L.length ≤ sizeLine ∧ (a == sysModules) = false ∧ (L.map fun p => p.1).Nodup ∧ ∃ xs : List (List Int × Addr × Value), Paired EntR L xs ∧
  ∃ o es ep, h.get? a = some o ∧ o.ExactDict ∧ o.data = .dict es ep ∧ ∀ (P : Program) (w : World), es.toList = xs.map (entryOfKey (tupleKind (intKind P w)))
def DXo (a : Addr) (L : List Ent) : HO := .ext fun h => DXat h a L
theorem dx_obj {P : Program} {w : World} {H : Hp} {h : Heap} {a : Addr} {L : List Ent} (x : DXat h a L) : ObjOk P w H h a (DXo a L) := by
  refine ⟨x, ?_, fun h1 h2 y k => ?_⟩
  · obtain ⟨_, _, _, xs, _, o, _, _, e, _⟩ := x
    exact ⟨o, e⟩
  · obtain ⟨y1, y2, y3, xs, y4, o, es, ep, e, y5⟩ := y
    exact ⟨y1, y2, y3, xs, y4, o, es, ep, k o e, y5⟩
theorem dx_get {P : Program} {w : World} {H : Hp} {h : Heap} {a : Addr} {L : List Ent} (ok : HOk P w H h) (e : Rd H a (DXo a L)) : DXat h a L := (show ObjOk P w H h a (DXo a L) from e.ok ok).1
/-- the entries stand for keys and data -/
inductive DxA (I : Hp) : List Ent → List (List Int) → List PyData → Prop
  | nil : DxA I [] [] []
  | cons {k : List Int} {q : Addr} {v : V} {L : List Ent} {ks : List (List Int)} {d : PyData} {ds : List PyData} : Dq I (.ref q) (.tuple (k.map PyData.int)) → Dq I v d → DxA I L ks ds → DxA I ((k, q, v) :: L) (k :: ks) (d :: ds)
theorem DxA.sub {I I' : Hp} (s : Sub I I') : ∀ {L : List Ent} {ks : List (List Int)} {ds : List PyData}, DxA I L ks ds → DxA I' L ks ds
  | _, _, _, .nil => .nil
  | _, _, _, .cons h1 h2 t => .cons (dq_sub s _ _ h1) (dq_sub s _ _ h2) (DxA.sub s t)
theorem DxA.keys {I : Hp} : ∀ {L : List Ent} {ks : List (List Int)} {ds : List PyData}, DxA I L ks ds → L.map (fun p => p.1) = ks
  | _, _, _, .nil => rfl
  | _, _, _, .cons _ _ t => congrArg (_ :: ·) (DxA.keys t)
theorem DxA.snoc {I : Hp} {k : List Int} {q : Addr} {v : V} {d : PyData} (h1 : Dq I (.ref q) (.tuple (k.map PyData.int))) (h2 : Dq I v d) : ∀ {L : List Ent} {ks : List (List Int)} {ds : List PyData}, DxA I L ks ds → DxA I (L ++ [(k, q, v)]) (ks ++ [k]) (ds ++ [d])
  | _, _, _, .nil => .cons h1 h2 .nil
  | _, _, _, .cons a b t => .cons a b (DxA.snoc h1 h2 t)
/-- what an argument, a result is: data; a value as it is; a dict whose keys are tuples of ints -/
inductive D where
  | p (x : PyData)
  | r (v : V)
  | dct (ks : List (List Int)) (ds : List PyData)
  | k (u : V) (Φ : Hp → Prop)
  | fz (ks : List (List Int)) (ds : List PyData)
abbrev dI (n : Int) : D := .p (.int n)
abbrev dB (b : Bool) : D := .p (.bool b)
abbrev dN : D := .p .none
abbrev dS (x : Str) : D := .p (.str x)
abbrev dT (xs : List PyData) : D := .p (.tuple xs)
abbrev dL (xs : List PyData) : D := .p (.list xs)
def Rep (I : Hp) (v : V) : D → Prop
  | .p x => Dq I v x
  | .r u => v = u
  | .dct ks ds => ∃ a L, v = .ref a ∧ I a = some (DXo a L) ∧ DxA I L ks ds
  | .k u Φ => v = u ∧ ∃ I0 : Hp, Sub I0 I ∧ ∀ I', Sub I0 I' → Φ I'
  | .fz ks ds => ∃ a o L, v = .ref a ∧ I a = some (.frz o (DXo a L)) ∧ DxA I L ks ds
/-- an own list or dict that stands at p -/
def RepO (I H : Hp) (p : Addr) : D → Prop
  | .p (.list xs) => ∃ vs, H p = some (.lst vs) ∧ DqA I vs xs
  | .dct ks ds => ∃ L, H p = some (DXo p L) ∧ DxA I L ks ds
  | _ => False
/-- a slot: nothing known; a value; an own list or dict, changed by this def alone -/
inductive SV where
  | un
  | d (x : D)
  | o (x : D)
/-- an expression's value: a value; an own list or dict of a slot; a new list or dict -/
inductive AV where
  | c (x : D)
  | b (x : D)
  | f (x : D)
theorem Rep.sub {I I' : Hp} (s : Sub I I') : ∀ {x : D} {v : V}, Rep I v x → Rep I' v x
  | .p x, v, h => dq_sub s x v h
  | .r _, _, h => h
  | .dct _ ds, _, ⟨a, L, e, h1, h2⟩ => ⟨a, L, e, s _ _ h1, h2.sub s⟩
  | .k _ _, _, ⟨e, I0, h1, h2⟩ => ⟨e, I0, fun a o z => s a o (h1 a o z), h2⟩
  | .fz _ ds, _, ⟨a, o, L, e, h1, h2⟩ => ⟨a, o, L, e, s _ _ h1, h2.sub s⟩
/-- a dict, by its keys and values -/
def D.isD : D → Option (List (List Int) × List PyData)
  | .dct ks ds => some (ks, ds)
  | .fz ks ds => some (ks, ds)
  | _ => none
theorem Rep.isD {I : Hp} {v : V} {ks : List (List Int)} {ds : List PyData} : ∀ {x : D}, Rep I v x → x.isD = some (ks, ds) → ∃ a L, v = .ref a ∧ Rd I a (DXo a L) ∧ DxA I L ks ds
  | .dct _ _, ⟨a, L, e, h1, h2⟩, z => by cases z; exact ⟨a, L, e, .inl h1, h2⟩
  | .fz _ _, ⟨a, o, L, e, h1, h2⟩, z => by cases z; exact ⟨a, L, e, .inr ⟨o, h1⟩, h2⟩
  | .p _, _, z => by cases z
  | .r _, _, z => by cases z
  | .k _ _, _, z => by cases z
def notTup : HO → Prop
  | .tup _ => False
  | .ext φ => ∀ a q, HO.ext φ ≠ LamX.CodeO a q
  | _ => True
theorem notTup.code {o : HO} (n : notTup o) {a : Addr} {q : Str} : o ≠ LamX.CodeO a q := fun z => by
  cases o with
  | ext φ => exact n a q z
  | _ => unfold LamX.CodeO at z; cases z
theorem dx_code {p : Addr} {L : List Ent} : ∀ a q, DXo p L ≠ LamX.CodeO a q := fun a q z => by
  unfold DXo LamX.CodeO at z
  have z : (fun h => DXat h p L) = (fun h : Heap => ∃ (oc : Obj) (vs : Array Value) (t : Tok), h.get? a = some oc ∧ oc.data = .fields vs ∧ vs[1]? = some (.str q t)) := HO.ext.inj z
  obtain ⟨o, ho⟩ : ∃ o : Obj, o = { cls := .none, data := .fields #[.none, .str q default] } := ⟨_, rfl⟩
  obtain ⟨h, hh⟩ : ∃ h : Heap, h = { objs := Array.replicate (a + 1) o } := ⟨_, rfl⟩
  have g : ∀ b, h.get? b = if b < a + 1 then some o else none := fun b => by
    rw [hh]
    unfold Heap.get?
    dsimp only
    rw [Array.getElem?_replicate]
    by_cases hb : b < a + 1
    · rw [if_pos hb, ho]
    · rw [if_neg hb]
  have hd : DXat h p L := (congrFun z h).mpr ⟨o, #[.none, .str q default], default, by rw [g, if_pos (Nat.lt_succ_self a)], by rw [ho], rfl⟩
  obtain ⟨_, _, _, xs, _, o', es, ep, e1, _, e2, _⟩ := hd
  rw [g] at e1
  split at e1
  · cases e1
    rw [ho] at e2
    cases e2
  · cases e1
theorem dx_notTup {p : Addr} {L : List Ent} : notTup (DXo p L) := dx_code
theorem RepO.at {I H : Hp} {p : Addr} : ∀ {x : D}, RepO I H p x → ∃ o, H p = some o ∧ notTup o
  | .p (.list _), ⟨_, h, _⟩ => ⟨_, h, trivial⟩
  | .dct _ _, ⟨_, h, _⟩ => ⟨_, h, dx_notTup⟩
  | .p .none, h => h.elim
  | .p (.bool _), h => h.elim
  | .p (.int _), h => h.elim
  | .p (.str _), h => h.elim
  | .p (.tuple _), h => h.elim
  | .p (.dict _), h => h.elim
  | .r _, h => h.elim
  | .k _ _, h => h.elim
  | .fz _ _, h => h.elim
theorem RepO.sub {I I' H H' : Hp} {p : Addr} (s : Sub I I') (e : ∀ o, H p = some o → H' p = some o) : ∀ {x : D}, RepO I H p x → RepO I' H' p x
  | .p (.list xs), ⟨vs, h1, h2⟩ => ⟨vs, e _ h1, dqA_sub s xs _ h2⟩
  | .dct _ ds, ⟨L, h1, h2⟩ => ⟨L, e _ h1, h2.sub s⟩
  | .p .none, h => h.elim
  | .p (.bool _), h => h.elim
  | .p (.int _), h => h.elim
  | .p (.str _), h => h.elim
  | .p (.tuple _), h => h.elim
  | .p (.dict _), h => h.elim
  | .r _, h => h.elim
  | .k _ _, h => h.elim
  | .fz _ _, h => h.elim
/-- an own thing that nobody hides is a value -/
theorem RepO.rep {I H : Hp} {p : Addr} (e : ∀ o, H p = some o → I p = some o) : ∀ {x : D}, RepO I H p x → Rep I (.ref p) x
  | .p (.list xs), ⟨vs, h1, h2⟩ => .lst (e _ h1) h2
  | .dct _ ds, ⟨L, h1, h2⟩ => ⟨p, L, rfl, e _ h1, h2⟩
  | .p .none, h => h.elim
  | .p (.bool _), h => h.elim
  | .p (.int _), h => h.elim
  | .p (.str _), h => h.elim
  | .p (.tuple _), h => h.elim
  | .p (.dict _), h => h.elim
  | .r _, h => h.elim
  | .k _ _, h => h.elim
  | .fz _ _, h => h.elim

/-! ### a def's run: what it must leave alone -/
/-- what changes with a call beside new things: the places T, of which TI holds -/
structure Tw where
  T : Addr → Prop
  TI : Hp → Prop
/-- T, TI; X: the places that may not be looked at as data (T among them); H0: the entry's heap; B: the statement's -/
structure Frm where
  tw : Tw
  X : Addr → Prop
  H0 : Hp
  B : Hp
structure Frm.Ok (F : Frm) : Prop where
  tx : ∀ a, F.tw.T a → F.X a
  st : ∀ H H' : Hp, (∀ a, F.tw.T a → H' a = H a) → (∀ a q, H a = some (LamX.CodeO a q) → H' a = some (LamX.CodeO a q)) → F.tw.TI H → F.tw.TI H'
def XX (F : Frm) (own : Nat → Option Addr) (a : Addr) : Prop := F.X a ∨ ∃ i, own i = some a
/-- what is looked at as data -/
noncomputable abbrev vis (F : Frm) (own : Nat → Option Addr) (H : Hp) : Hp := hide H (XX F own)
/-- a slot is as said -/
def SlOk (I H : Hp) (o : Option Addr) (s : Option (Option V)) : SV → Prop
  | .un => o = none
  | .d x => o = none ∧ ∃ v, s = some (some v) ∧ Rep I v x
  | .o x => ∃ p, o = some p ∧ s = some (some (.ref p)) ∧ RepO I H p x
structure Rel (F : Frm) (own : Nat → Option Addr) (Γ : List SV) (σ : L2.St) (H : Hp) : Prop where
  ok : F.Ok
  ext : ∀ a o, F.H0 a = some o → ¬ F.tw.T a → H a = some o
  bas : ∀ a o, F.B a = some o → ∃ o', H a = some o'
  ti : F.tw.TI H
  x : ∀ a, F.X a → ∃ o, H a = some o ∧ notTup o
  len : Γ.length = σ.length
  sl : ∀ i g, Γ[i]? = some g → SlOk (vis F own H) H (own i) σ[i]? g
  inj : ∀ i j p, own i = some p → own j = some p → i = j
  fr : ∀ i p, own i = some p → i < Γ.length ∧ F.H0 p = none ∧ ¬ F.X p ∧ ∃ o, H p = some o ∧ notTup o
/-- an expression's way: all stands but what T tells -/
def Ext (F : Frm) (H H' : Hp) : Prop := ∀ a o, H a = some o → ¬ F.tw.T a → H' a = some o
theorem Ext.refl {F : Frm} {H : Hp} : Ext F H H := fun _ _ h _ => h
theorem Ext.trans {F : Frm} {H H1 H2 : Hp} (a : Ext F H H1) (b : Ext F H1 H2) : Ext F H H2 := fun c o h n => b c o (a c o h n) n
theorem Ext.of {F : Frm} {H H' : Hp} (e : Sub H H') : Ext F H H' := fun a o h _ => e a o h
theorem Ext.vis {F : Frm} {own : Nat → Option Addr} {H H' : Hp} (ok : F.Ok) (e : Ext F H H') : Sub (vis F own H) (vis F own H') := fun a o h => by
  obtain ⟨h1, h2⟩ := of_hide h
  exact hide_of (e a o h1 fun t => h2 (.inl (ok.tx a t))) h2
def RepAV (F : Frm) (own : Nat → Option Addr) (H : Hp) (v : V) : AV → Prop
  | .c x => Rep (vis F own H) v x
  | .b x => ∃ i p, own i = some p ∧ v = .ref p ∧ RepO (vis F own H) H p x
  | .f x => ∃ p, v = .ref p ∧ F.B p = none ∧ ¬ XX F own p ∧ RepO (hide H fun a => XX F own a ∨ a = p) H p x
section
variable {F : Frm} {own : Nat → Option Addr} {Γ : List SV} {σ : L2.St} {H H' : Hp}
theorem Rel.notT (R : Rel F own Γ σ H) {i : Nat} {p : Addr} (h : own i = some p) : ¬ F.tw.T p := fun t => (R.fr i p h).2.2.1 (R.ok.tx p t)
/-- the places that the frame hides are of no tuple -/
theorem Rel.hid (R : Rel F own Γ σ H) {a : Addr} (h : XX F own a) : ∃ o, H a = some o ∧ notTup o := by
  rcases h with h | ⟨i, h⟩
  · exact R.x a h
  · exact (R.fr i a h).2.2.2
theorem Rel.free (R : Rel F own Γ σ H) {a : Addr} (h : H a = none) : ¬ XX F own a := fun x => by
  obtain ⟨o, e, _⟩ := R.hid x
  rw [h] at e
  cases e
theorem Rel.free0 (R : Rel F own Γ σ H) {a : Addr} (h : H a = none) (n : ¬ F.tw.T a) : F.H0 a = none := by
  cases e : F.H0 a with
  | none => rfl
  | some o =>
    have q := R.ext a o e n
    rw [h] at q
    cases q
theorem Rel.freeT (R : Rel F own Γ σ H) {a : Addr} (h : H a = none) : F.H0 a = none := R.free0 h fun t => by
  obtain ⟨o, e, _⟩ := R.x a (R.ok.tx a t)
  rw [h] at e
  cases e
theorem RepAV.ext (R : Rel F own Γ σ H) (e : Ext F H H') : ∀ {v : V} {x : AV}, RepAV F own H v x → RepAV F own H' v x
  | _, .c x, h => Rep.sub (e.vis R.ok) h
  | _, .b x, ⟨i, p, h1, h2, h3⟩ => ⟨i, p, h1, h2, h3.sub (e.vis R.ok) fun o q => e p o q (R.notT h1)⟩
  | _, .f x, ⟨p, h1, h2, h3, h4⟩ => ⟨p, h1, h2, h3, h4.sub (fun a o q => by
      obtain ⟨q1, q2⟩ := of_hide q
      exact hide_of (e a o q1 fun t => q2 (.inl (.inl (R.ok.tx a t)))) q2) fun o q => e p o q fun t => h3 (.inl (R.ok.tx p t))⟩
/-- a heap that keeps all but T's, where TI holds -/
theorem Rel.to (R : Rel F own Γ σ H) (e : Ext F H H') (ti : F.tw.TI H') (x : ∀ a, F.tw.T a → ∃ o, H' a = some o ∧ notTup o) : Rel F own Γ σ H' where
  ok := R.ok
  ext := fun a o h n => e a o (R.ext a o h n) n
  bas := fun a o h => by
    obtain ⟨o', q⟩ := R.bas a o h
    by_cases t : F.tw.T a
    · obtain ⟨u, q', _⟩ := x a t
      exact ⟨u, q'⟩
    · exact ⟨o', e a o' q t⟩
  ti := ti
  x := fun a h => by
    by_cases t : F.tw.T a
    · exact x a t
    · obtain ⟨o, h1, h2⟩ := R.x a h
      exact ⟨o, e a o h1 t, h2⟩
  len := R.len
  sl := fun i g hg => by
    have q := R.sl i g hg
    cases g with
    | un => exact q
    | d y =>
      obtain ⟨h1, v, h2, h3⟩ := q
      exact ⟨h1, v, h2, h3.sub (e.vis R.ok)⟩
    | o y =>
      obtain ⟨p, h1, h2, h3⟩ := q
      exact ⟨p, h1, h2, h3.sub (e.vis R.ok) fun o q => e p o q (R.notT h1)⟩
  inj := R.inj
  fr := fun i p h => by
    obtain ⟨h1, h2, h3, o, h4, h5⟩ := R.fr i p h
    exact ⟨h1, h2, h3, o, e p o h4 (R.notT h), h5⟩
/-- a new thing -/
theorem Rel.new (R : Rel F own Γ σ H) {p : Addr} {o : HO} (n : H p = none) : Rel F own Γ σ (upd H p o) := by
  have e : Ext F H (upd H p o) := fun a u h _ => by rw [upd_ne (ne_of_none h n)]; exact h
  have np : ∀ a, F.tw.T a → a ≠ p := fun a t z => by
    subst z
    exact R.free n (.inl (R.ok.tx a t))
  refine R.to e (R.ok.st H _ (fun a t => upd_ne (np a t)) (fun a q z => by rw [upd_ne (ne_of_none z n)]; exact z) R.ti) fun a t => ?_
  obtain ⟨u, h1, h2⟩ := R.x a (R.ok.tx a t)
  exact ⟨u, by rw [upd_ne (np a t)]; exact h1, h2⟩
theorem ext_new {p : Addr} {o : HO} (n : H p = none) : Ext F H (upd H p o) := fun a u h _ => by rw [upd_ne (ne_of_none h n)]; exact h
theorem vis_new (R : Rel F own Γ σ H) {p : Addr} {o : HO} (n : H p = none) : vis F own (upd H p o) p = some o := hide_of upd_same (R.free n)
theorem Rel.freeB (R : Rel F own Γ σ H) {a : Addr} (h : H a = none) : F.B a = none := by
  cases e : F.B a with
  | none => rfl
  | some o =>
    obtain ⟨o', q⟩ := R.bas a o e
    rw [h] at q
    cases q
/-- another base -/
theorem Rel.rebase (R : Rel F own Γ σ H) {B : Hp} (b : ∀ a o, B a = some o → ∃ o', H a = some o') : Rel { F with B := B } own Γ σ H := ⟨⟨R.ok.tx, R.ok.st⟩, R.ext, b, R.ti, R.x, R.len, R.sl, R.inj, R.fr⟩
theorem Rel.unbase {B : Hp} (R : Rel { F with B := B } own Γ σ H) (b : ∀ a o, F.B a = some o → ∃ o', H a = some o') : Rel F own Γ σ H := ⟨⟨R.ok.tx, R.ok.st⟩, R.ext, b, R.ti, R.x, R.len, R.sl, R.inj, R.fr⟩
theorem RepAV.clean {v : V} {x : D} (h : RepAV F own H v (.f x)) : Rep (vis F own H) v x := by
  obtain ⟨p, rfl, h0, n, q⟩ := h
  exact RepO.rep (fun o e => hide_of e n) (q.sub (fun a o e => by
    obtain ⟨e1, e2⟩ := of_hide e
    exact hide_of e1 fun z => e2 (.inl z)) fun o e => e)
end
end WL

set_option maxRecDepth 100000
set_option maxHeartbeats 1000000
/-! Readings over data, expressions. -/
namespace WL
open PySem PySem.Spec PyProof.Rows L2
abbrev DE := List SV → (AV → Prop) → (Value → Prop) → Prop
abbrev DT := List SV → (Bool → Prop) → (Value → Prop) → Prop
abbrev DA := List SV → (List AV → Prop) → (Value → Prop) → Prop
/-- what follows an expression -/
def Kont (F : Frm) (own : Nat → Option Addr) (Γ : List SV) (σ : L2.St) (H : Hp) (Qd : AV → Prop) (Q : VK) : Prop :=
  ∀ v H' x, Rel F own Γ σ H' → Ext F H H' → RepAV F own H' v x → Qd x → Q v H'
def KonX (F : Frm) (own : Nat → Option Addr) (Γ : List SV) (σ : L2.St) (H : Hp) (Ed : Value → Prop) (W : WX) : Prop :=
  ∀ c H', Rel F own Γ σ H' → Ext F H H' → Ed c → W c none σ H'
def lift (tw : Tw) (W : WX) (t : DE) : TE := fun σ H Q => ∃ F own Γ Qd Ed, F.tw = tw ∧ Rel F own Γ σ H ∧ t Γ Qd Ed ∧ Kont F own Γ σ H Qd Q ∧ KonX F own Γ σ H Ed W
def liftT (tw : Tw) (W : WX) (t : DT) : TT := fun σ H Q => ∃ F own Γ Qd Ed, F.tw = tw ∧ Rel F own Γ σ H ∧ t Γ Qd Ed ∧ (∀ b H', Rel F own Γ σ H' → Ext F H H' → Qd b → Q b H') ∧ KonX F own Γ σ H Ed W
/-- many values -/
inductive RepAVs (F : Frm) (own : Nat → Option Addr) (H : Hp) : List V → List AV → Prop
  | nil : RepAVs F own H [] []
  | cons {v : V} {vs : List V} {x : AV} {xs : List AV} : RepAV F own H v x → RepAVs F own H vs xs → RepAVs F own H (v :: vs) (x :: xs)
def liftA (tw : Tw) (W : WX) (t : DA) : TA := fun σ H Q => ∃ F own Γ Qd Ed, F.tw = tw ∧ Rel F own Γ σ H ∧ t Γ Qd Ed ∧ (∀ vs H' xs, Rel F own Γ σ H' → Ext F H H' → RepAVs F own H' vs xs → Qd xs → Q vs H') ∧ KonX F own Γ σ H Ed W
abbrev VE (X : Cx) (tw : Tw) (W : WX) (e : Expr) (t : DE) : Prop := PE X e (lift tw W t)
abbrev VT (X : Cx) (tw : Tw) (W : WX) (e : Expr) (t : DT) : Prop := PT X e (liftT tw W t)
abbrev VW (X : Cx) (tw : Tw) (W : WX) (e : Expr) (t : DT) : Prop := PW X e (liftT tw W t)
abbrev VA (X : Cx) (tw : Tw) (W : WX) (es : List Expr) (t : DA) : Prop := PA X es (liftA tw W t)
theorem PE.mono {X : Cx} {e : Expr} {t t' : TE} (h : PE X e t) (m : ∀ σ H Q, t' σ H Q → t σ H Q) : PE X e t' := ⟨fun pins s σ H Q I q => h.run pins s σ H Q I (m σ H Q q)⟩
theorem PT.mono {X : Cx} {e : Expr} {t t' : TT} (h : PT X e t) (m : ∀ σ H Q, t' σ H Q → t σ H Q) : PT X e t' := ⟨fun pins s σ H Q I q => h.run pins s σ H Q I (m σ H Q q)⟩
theorem PW.mono {X : Cx} {e : Expr} {t t' : TT} (h : PW X e t) (m : ∀ σ H Q, t' σ H Q → t σ H Q) : PW X e t' := ⟨fun w pins s σ H Q I q => h.run w pins s σ H Q I (m σ H Q q)⟩
theorem PA.mono {X : Cx} {e : List Expr} {t t' : TA} (h : PA X e t) (m : ∀ σ H Q, t' σ H Q → t σ H Q) : PA X e t' := ⟨fun pos pins s σ H Q I q => h.run pos pins s σ H Q I (m σ H Q q)⟩
section
variable {tw : Tw} {W : WX} {F : Frm} {own : Nat → Option Addr} {Γ : List SV} {σ : L2.St} {H H1 : Hp} {Qd : AV → Prop} {Ed : Value → Prop} {Q : VK}
theorem KonX.ext (k : KonX F own Γ σ H Ed W) (e : Ext F H H1) : KonX F own Γ σ H1 Ed W := fun c H' R e' q => k c H' R (e.trans e') q
theorem Kont.ext (k : Kont F own Γ σ H Qd Q) (e : Ext F H H1) : Kont F own Γ σ H1 Qd Q := fun v H' x R e' r q => k v H' x R (e.trans e') r q
/-- one expression, then what its value gives -/
theorem lift_mk {t : DE} (ht : F.tw = tw) (R : Rel F own Γ σ H) (kx : KonX F own Γ σ H Ed W) {P : AV → Prop} (h : t Γ P Ed) (k : ∀ v H' x, Rel F own Γ σ H' → Ext F H H' → RepAV F own H' v x → P x → Q v H') : lift tw W t σ H Q :=
  ⟨F, own, Γ, P, Ed, ht, R, h, k, kx⟩
theorem liftT_mk {t : DT} {Q : Bool → Hp → Prop} (ht : F.tw = tw) (R : Rel F own Γ σ H) (kx : KonX F own Γ σ H Ed W) {P : Bool → Prop} (h : t Γ P Ed) (k : ∀ b H', Rel F own Γ σ H' → Ext F H H' → P b → Q b H') : liftT tw W t σ H Q :=
  ⟨F, own, Γ, P, Ed, ht, R, h, k, kx⟩
theorem liftA_mk {t : DA} {Q : List V → Hp → Prop} (ht : F.tw = tw) (R : Rel F own Γ σ H) (kx : KonX F own Γ σ H Ed W) {P : List AV → Prop} (h : t Γ P Ed) (k : ∀ vs H' xs, Rel F own Γ σ H' → Ext F H H' → RepAVs F own H' vs xs → P xs → Q vs H') : liftA tw W t σ H Q :=
  ⟨F, own, Γ, P, Ed, ht, R, h, k, kx⟩
/-- the value stays, the heap stays -/
theorem Kont.here (k : Kont F own Γ σ H Qd Q) (R : Rel F own Γ σ H) {v : V} {x : AV} (r : RepAV F own H v x) (q : Qd x) : Q v H := k v H x R .refl r q
theorem RepAVs.ext (R : Rel F own Γ σ H) (e : Ext F H H1) : ∀ {vs : List V} {xs : List AV}, RepAVs F own H vs xs → RepAVs F own H1 vs xs
  | _, _, .nil => .nil
  | _, _, .cons r t => .cons (r.ext R e) (RepAVs.ext R e t)
/-- what a value of any kind says: read over the whole heap -/
def AV.any : AV → D
  | .c x => x
  | .b x => x
  | .f x => x
theorem RepAV.any : ∀ {v : V} {x : AV}, RepAV F own H v x → Rep H v x.any
  | _, .c x, h => Rep.sub sub_hide h
  | _, .b x, ⟨_, p, _, rfl, h⟩ => RepO.rep (fun _ e => e) (h.sub sub_hide fun _ e => e)
  | _, .f x, ⟨p, rfl, _, _, h⟩ => RepO.rep (fun _ e => e) (h.sub sub_hide fun _ e => e)
theorem RepO.lst {I : Hp} {p : Addr} {ds : List PyData} (h : RepO I H p (.p (.list ds))) : ∃ vs, H p = some (.lst vs) ∧ DqA I vs ds := h
theorem RepAV.lst {v : V} {ds : List PyData} : ∀ {x : AV}, RepAV F own H v x → x.any = .p (.list ds) → ∃ a vs, v = .ref a ∧ H a = some (.lst vs) ∧ DqA (vis F own H) vs ds
  | .c x, h, e => by
    cases e
    cases h with
    | lst hs ha => exact ⟨_, _, rfl, sub_hide _ _ hs, ha⟩
  | .b x, h, e => by
    cases e
    obtain ⟨_, p, _, rfl, vs, h1, h2⟩ := h
    exact ⟨p, vs, rfl, h1, h2⟩
  | .f x, h, e => by
    cases e
    obtain ⟨p, rfl, _, _, vs, h1, h2⟩ := h
    refine ⟨p, vs, rfl, h1, dqA_sub (fun a o e => ?_) _ _ h2⟩
    obtain ⟨e1, e2⟩ := of_hide e
    exact hide_of e1 fun z => e2 (.inl z)
theorem RepAV.tup {v : V} {ds : List PyData} : ∀ {x : AV}, RepAV F own H v x → x.any = .p (.tuple ds) → ∃ a o vs, v = .ref a ∧ vis F own H a = some (.frz o (.tup vs)) ∧ o.dict = none ∧ DqA (vis F own H) vs ds
  | .c x, h, e => by
    cases e
    cases h with
    | tup hs hd ha => exact ⟨_, _, _, rfl, hs, hd, ha⟩
  | .b x, h, e => by
    cases e
    obtain ⟨_, p, _, rfl, h⟩ := h
    exact h.elim
  | .f x, h, e => by
    cases e
    obtain ⟨p, rfl, _, _, h⟩ := h
    exact h.elim
theorem RepAV.dct {v : V} {ks : List (List Int)} {ds : List PyData} : ∀ {x : AV}, RepAV F own H v x → x.any = .dct ks ds → ∃ a L, v = .ref a ∧ H a = some (DXo a L) ∧ DxA (vis F own H) L ks ds
  | .c x, h, e => by
    cases e
    obtain ⟨a, L, rfl, h1, h2⟩ := h
    exact ⟨a, L, rfl, (of_hide h1).1, h2⟩
  | .b x, h, e => by
    cases e
    obtain ⟨_, p, _, rfl, L, h1, h2⟩ := h
    exact ⟨p, L, rfl, h1, h2⟩
  | .f x, h, e => by
    cases e
    obtain ⟨p, rfl, _, _, L, h1, h2⟩ := h
    refine ⟨p, L, rfl, h1, h2.sub fun a o e => ?_⟩
    obtain ⟨e1, e2⟩ := of_hide e
    exact hide_of e1 fun z => e2 (.inl z)
theorem RepAV.dic {v : V} {ks : List (List Int)} {ds : List PyData} : ∀ {x : AV}, RepAV F own H v x → x.any.isD = some (ks, ds) → ∃ a L, v = .ref a ∧ Rd H a (DXo a L) ∧ DxA (vis F own H) L ks ds
  | .c x, h, e => by
    obtain ⟨a, L, rfl, h1, h2⟩ := Rep.isD h e
    refine ⟨a, L, rfl, ?_, h2⟩
    rcases h1 with h1 | ⟨o, h1⟩
    · exact .inl (of_hide h1).1
    · exact .inr ⟨o, (of_hide h1).1⟩
  | .b (.dct _ _), h, e => by
    cases e
    obtain ⟨_, p, _, rfl, L, h1, h2⟩ := h
    exact ⟨p, L, rfl, .inl h1, h2⟩
  | .f (.dct _ _), h, e => by
    cases e
    obtain ⟨p, rfl, _, _, L, h1, h2⟩ := h
    refine ⟨p, L, rfl, .inl h1, h2.sub fun a o e => ?_⟩
    obtain ⟨e1, e2⟩ := of_hide e
    exact hide_of e1 fun z => e2 (.inl z)
  | .b (.fz _ _), ⟨_, _, _, _, h⟩, _ => h.elim
  | .f (.fz _ _), ⟨_, _, _, _, h⟩, _ => h.elim
  | .b (.p _), _, e => by cases e
  | .b (.r _), _, e => by cases e
  | .b (.k _ _), _, e => by cases e
  | .f (.p _), _, e => by cases e
  | .f (.r _), _, e => by cases e
  | .f (.k _ _), _, e => by cases e
/-- a value that may be kept: data or a new thing -/
def AV.val (Q : D → Prop) : AV → Prop
  | .c x => Q x
  | .f x => Q x
  | .b _ => False
theorem AV.val_rep {v : V} {P : D → Prop} : ∀ {x : AV}, RepAV F own H v x → x.val P → ∃ d, x.any = d ∧ P d ∧ Rep (vis F own H) v d
  | .c x, h, q => ⟨x, rfl, q, h⟩
  | .f x, h, q => ⟨x, rfl, q, RepAV.clean h⟩
  | .b _, _, q => q.elim
/-- a new list, a new tuple -/
theorem Rel.newL (R : Rel F own Γ σ H) {p : Addr} {vs : List V} {ds : List PyData} (n : H p = none) (r : DqA (vis F own H) vs ds) : RepAV F own (upd H p (.lst vs)) (.ref p) (.f (.p (.list ds))) := by
  refine ⟨p, rfl, R.freeB n, R.free n, vs, upd_same, dqA_sub (fun a o e => ?_) _ _ r⟩
  obtain ⟨e1, e2⟩ := of_hide e
  have ne := ne_of_none e1 n
  exact hide_of (by rw [upd_ne ne]; exact e1) fun z => z.elim e2 ne
theorem Rel.newT (R : Rel F own Γ σ H) {p : Addr} {o : Obj} {vs : List V} {ds : List PyData} (n : H p = none) (ho : o.dict = none) (r : DqA (vis F own H) vs ds) : RepAV F own (upd H p (.frz o (.tup vs))) (.ref p) (.c (.p (.tuple ds))) :=
  Dq.tup (vis_new R n) ho (dqA_sub ((ext_new n).vis R.ok) _ _ r)
theorem sqT_frz {K : PySem.W.Frag} {a : Addr} {o : Obj} {vs : List V} (h : H a = some (.frz o (.tup vs))) : SqT K H a vs := .inl (.inr ⟨o, h⟩)
end

/-! ### names, constants -/
section
variable {X : Cx} {tw : Tw} {W : WX}
def dVar (i : Nat) : DE := fun Γ Q _ => match Γ[i]? with
  | some (.d x) => Q (.c x)
  | some (.o x) => Q (.b x)
  | _ => False
def dC (x : D) : DE := fun _ Q _ => Q (.c x)
theorem var_sim {i : Nat} {σ : L2.St} {H : Hp} {Q : VK} (h : lift tw W (dVar i) σ H Q) : tVar i σ H Q := by
  obtain ⟨F, own, Γ, Qd, Ed, ht, R, h, k, kx⟩ := h
  unfold dVar at h
  split at h
  · rename_i x e
    obtain ⟨_, v, h2, h3⟩ := R.sl i _ e
    exact ⟨v, h2, k.here R (x := .c x) h3 h⟩
  · rename_i x e
    obtain ⟨p, h1, h2, h3⟩ := R.sl i _ e
    exact ⟨.ref p, h2, k.here R (x := .b x) ⟨i, p, h1, rfl, h3⟩ h⟩
  · exact h.elim
theorem vv (i : Nat) {x : Str} {pos : Pos} (hN : X.N[i]? = some x := by rfl) (hv : Vis X.env.scope x := by first | exact Or.inl rfl | exact Or.inr (Or.inl rfl) | exact Or.inr (Or.inr rfl)) (hd : (x == ("__debug__" : Str)) = false := by decide)
    (hcd : (x == ("__classdict__" : Str)) = false := by decide) : VE X tw W (.Name x pos) (dVar i) := PE.mono (pe_var hN hv hd hcd) fun _ _ _ => var_sim
theorem con_sim {v : V} {x : D} {σ : L2.St} {H : Hp} {Q : VK} (r : ∀ I, Rep I v x) (h : lift tw W (dC x) σ H Q) : tC v σ H Q := by
  obtain ⟨F, own, Γ, Qd, Ed, ht, R, h, k, kx⟩ := h
  exact k.here R (x := .c x) (r _) h
theorem ve_int {i j pos} : VE X tw W (.Constant (.int i) j pos) (dC (dI i)) := PE.mono pe_int fun _ _ _ => con_sim fun _ => .int i
theorem ve_bl {b j pos} : VE X tw W (.Constant (.bool b) j pos) (dC (dB b)) := PE.mono pe_bl fun _ _ _ => con_sim fun _ => .bl b
theorem ve_non {j pos} : VE X tw W (.Constant .none j pos) (dC dN) := PE.mono pe_non fun _ _ _ => con_sim fun _ => .non
theorem ve_str {x j pos} : VE X tw W (.Constant (.str x) j pos) (dC (dS x)) := PE.mono pe_str fun _ _ _ => con_sim fun _ => .str x
theorem ve_glob {x : Str} {v : V} {u : Value} {pos : Pos} (hg : Gl X x) (hm : X.mg x = some u) (r : RelV v u) (hd : (x == ("__debug__" : Str)) = false := by decide) : VE X tw W (.Name x pos) (dC (.r v)) := PE.mono (pe_glob hg hm r hd) fun _ _ _ => con_sim fun _ => rfl

/-! ### operators -/
abbrev G2 := AV → AV → (AV → Prop) → Prop
/-- a rule by values, and what it says of data -/
def Sim2 (r : R2) (g : G2) : Prop := ∀ (F : Frm) (own : Nat → Option Addr) (Γ : List SV) (σ : L2.St) (H : Hp) (v u : V) (x y : AV) (Qd : AV → Prop) (Q : VK),
  Rel F own Γ σ H → RepAV F own H v x → RepAV F own H u y → g x y Qd → Kont F own Γ σ H Qd Q → r v u H Q
def dOp (g : G2) (a b : DE) : DE := fun Γ Q Ed => a Γ (fun x => b Γ (fun y => g x y Q) Ed) Ed
theorem op_sim {r : R2} {g : G2} {a b : DE} {σ : L2.St} {H : Hp} {Q : VK} (s : Sim2 r g) (h : lift tw W (dOp g a b) σ H Q) : tOp r (lift tw W a) (lift tw W b) σ H Q := by
  obtain ⟨F, own, Γ, Qd, Ed, ht, R, h, k, kx⟩ := h
  refine lift_mk ht R kx h fun v H1 x R1 e1 r1 q1 => ?_
  refine lift_mk ht R1 (kx.ext e1) q1 fun u H2 y R2 e2 r2 q2 => ?_
  exact s F own Γ σ H2 v u x y Qd Q R2 (r1.ext R1 e2) r2 q2 (k.ext (e1.trans e2))
theorem ve_op {op : Operator} {r : R2} {g : G2} {a b : Expr} {da db : DE} {pos : Pos} (ho : OpR X (binaryOp op) r) (s : Sim2 r g) (ha : VE X tw W a da) (hb : VE X tw W b db) : VE X tw W (.BinOp a op b pos) (dOp g da db) :=
  PE.mono (pe_op ho ha hb) fun _ _ _ => op_sim s
theorem ve_cmp {op : CmpOp} {r : R2} {g : G2} {a b : Expr} {da db : DE} {pos : Pos} (ho : OpR X (compareOp op) r) (s : Sim2 r g) (ha : VE X tw W a da) (hb : VE X tw W b db) (hm : behindInMarks op b = false := by first | exact nomark _ (by decide) (by decide) | rfl) :
    VE X tw W (.Compare a [op] [b] pos) (dOp g da db) := PE.mono (pe_cmpR ho ha hb hm) fun _ _ _ => op_sim s
/-- a comparison as a test -/
def dTest (t : DE) : DT := fun Γ Q Ed => t Γ (fun x => match x with
  | .c (.p (.bool b)) => Q b
  | _ => False) Ed
theorem test_sim {t : DE} {σ : L2.St} {H : Hp} {Q : Bool → Hp → Prop} (h : liftT tw W (dTest t) σ H Q) : lift tw W t σ H fun x H1 => ∃ c, x = .bl c ∧ Q c H1 := by
  obtain ⟨F, own, Γ, Qd, Ed, ht, R, h, k, kx⟩ := h
  refine lift_mk ht R kx h fun v H1 x R1 e1 r1 q1 => ?_
  split at q1
  · rename_i b
    cases r1
    exact ⟨b, rfl, k b H1 R1 e1 q1⟩
  · exact q1.elim
/-- an expression that gives a bool, as a test -/
theorem vt_val {e : Expr} {t : DE} (h : VE X tw W e t) (he : ∀ whole, isTrue e X.env whole = (do let v ← whole; standAt e.pos; holding [v] (truthy v)) := by intro _; rfl) : VT X tw W e (dTest t) := PT.mono (pt_val h he) fun _ _ _ => test_sim
theorem vt_cmp {op : CmpOp} {r : R2} {g : G2} {a b : Expr} {da db : DE} {pos : Pos} (ho : OpR X (compareOp op) r) (s : Sim2 r g) (ha : VE X tw W a da) (hb : VE X tw W b db) (hm : behindInMarks op b = false := by first | exact nomark _ (by decide) (by decide) | rfl) :
    VT X tw W (.Compare a [op] [b] pos) (dTest (dOp g da db)) := PT.mono (pt_cmpR ho ha hb hm) fun σ H Q h => by
  have q := test_sim h
  exact op_sim s q
/-- two ints -/
def gI (f : Int → Int → D) : G2
  | .c (.p (.int i)), .c (.p (.int j)), Q => Q (.c (f i j))
  | _, _, _ => False
def gIc (C : Int → Int → Prop) (f : Int → Int → D) : G2
  | .c (.p (.int i)), .c (.p (.int j)), Q => C i j ∧ Q (.c (f i j))
  | _, _, _ => False
theorem sim_I {f : Int → Int → V} {fd : Int → Int → D} (h : ∀ I i j, Rep I (f i j) (fd i j)) : Sim2 (rI0 f) (gI fd) := fun F own Γ σ H v u x y Qd Q R r1 r2 q k => by
  unfold gI at q
  split at q
  · cases r1
    cases r2
    exact ⟨_, _, rfl, rfl, k.here R (x := .c _) (h _ _ _) q⟩
  · exact q.elim
theorem sim_Ic {C : Int → Int → Prop} {f : Int → Int → V} {fd : Int → Int → D} (h : ∀ I i j, Rep I (f i j) (fd i j)) : Sim2 (rI C f) (gIc C fd) := fun F own Γ σ H v u x y Qd Q R r1 r2 q k => by
  unfold gIc at q
  split at q
  · cases r1
    cases r2
    exact ⟨_, _, rfl, rfl, q.1, k.here R (x := .c _) (h _ _ _) q.2⟩
  · exact q.elim
abbrev gAdd : G2 := gI fun i j => dI (i + j)
abbrev gSub : G2 := gI fun i j => dI (i - j)
abbrev gMul : G2 := gIc CMul fun i j => dI (i * j)
abbrev gMod : G2 := gIc (fun _ j => 0 < j) fun i j => dI (i % j)
abbrev gDiv : G2 := gIc CDiv fun i j => dI (i / j)
abbrev gLt : G2 := gI fun i j => dB (decide (i < j))
abbrev gLe : G2 := gI fun i j => dB (decide (i ≤ j))
abbrev gGt : G2 := gI fun i j => dB (decide (j < i))
abbrev gGe : G2 := gI fun i j => dB (decide (j ≤ i))
variable {a b c : Expr} {da db dc : DE} {pos : Pos}
theorem ve_add (ha : VE X tw W a da) (hb : VE X tw W b db) : VE X tw W (.BinOp a .Add b pos) (dOp gAdd da db) := ve_op op_add (sim_I fun _ _ _ => .int _) ha hb
theorem ve_sub (ha : VE X tw W a da) (hb : VE X tw W b db) : VE X tw W (.BinOp a .Sub b pos) (dOp gSub da db) := ve_op op_sub (sim_I fun _ _ _ => .int _) ha hb
theorem ve_mul (ha : VE X tw W a da) (hb : VE X tw W b db) : VE X tw W (.BinOp a .Mult b pos) (dOp gMul da db) := ve_op op_mul (sim_Ic fun _ _ _ => .int _) ha hb
theorem ve_mod (ha : VE X tw W a da) (hb : VE X tw W b db) : VE X tw W (.BinOp a .Mod b pos) (dOp gMod da db) := ve_op op_mod (sim_Ic fun _ _ _ => .int _) ha hb
theorem ve_fdiv (ha : VE X tw W a da) (hb : VE X tw W b db) : VE X tw W (.BinOp a .FloorDiv b pos) (dOp gDiv da db) := ve_op op_fdiv (sim_Ic fun _ _ _ => .int _) ha hb
theorem ve_lt (ha : VE X tw W a da) (hb : VE X tw W b db) : VE X tw W (.Compare a [.Lt] [b] pos) (dOp gLt da db) := ve_cmp op_lt (sim_I fun _ _ _ => .bl _) ha hb
theorem ve_le (ha : VE X tw W a da) (hb : VE X tw W b db) : VE X tw W (.Compare a [.LtE] [b] pos) (dOp gLe da db) := ve_cmp op_le (sim_I fun _ _ _ => .bl _) ha hb
theorem ve_gt (ha : VE X tw W a da) (hb : VE X tw W b db) : VE X tw W (.Compare a [.Gt] [b] pos) (dOp gGt da db) := ve_cmp op_gt (sim_I fun _ _ _ => .bl _) ha hb
theorem ve_ge (ha : VE X tw W a da) (hb : VE X tw W b db) : VE X tw W (.Compare a [.GtE] [b] pos) (dOp gGe da db) := ve_cmp op_ge (sim_I fun _ _ _ => .bl _) ha hb
theorem vt_lt (ha : VE X tw W a da) (hb : VE X tw W b db) : VT X tw W (.Compare a [.Lt] [b] pos) (dTest (dOp gLt da db)) := vt_cmp op_lt (sim_I fun _ _ _ => .bl _) ha hb
theorem vt_le (ha : VE X tw W a da) (hb : VE X tw W b db) : VT X tw W (.Compare a [.LtE] [b] pos) (dTest (dOp gLe da db)) := vt_cmp op_le (sim_I fun _ _ _ => .bl _) ha hb
theorem vt_gt (ha : VE X tw W a da) (hb : VE X tw W b db) : VT X tw W (.Compare a [.Gt] [b] pos) (dTest (dOp gGt da db)) := vt_cmp op_gt (sim_I fun _ _ _ => .bl _) ha hb
theorem vt_ge (ha : VE X tw W a da) (hb : VE X tw W b db) : VT X tw W (.Compare a [.GtE] [b] pos) (dTest (dOp gGe da db)) := vt_cmp op_ge (sim_I fun _ _ _ => .bl _) ha hb
/-- low <= x <= high -/
def dChain (g g' : G2) (da db dc : DE) : DE := fun Γ Q Ed => da Γ (fun x => db Γ (fun y => g x y fun z => match z with
  | .c (.p (.bool true)) => dc Γ (fun z => g' y z Q) Ed
  | .c (.p (.bool false)) => Q (.c (dB false))
  | _ => False) Ed) Ed
theorem chain_sim {r r' : R2} {g g' : G2} {a b c : DE} {σ : L2.St} {H : Hp} {Q : VK} (s : Sim2 r g) (s' : Sim2 r' g') (h : lift tw W (dChain g g' a b c) σ H Q) : tChain r r' (lift tw W a) (lift tw W b) (lift tw W c) σ H Q := by
  obtain ⟨F, own, Γ, Qd, Ed, ht, R, h, k, kx⟩ := h
  refine lift_mk ht R kx h fun v H1 x R1 e1 r1 q1 => ?_
  refine lift_mk ht R1 (kx.ext e1) q1 fun u H2 y R2 e2 r2 q2 => ?_
  refine s F own Γ σ H2 v u x y _ _ R2 (r1.ext R1 e2) r2 q2 fun z H3 az R3 e3 r3 q3 => ?_
  split at q3
  · cases r3
    refine ⟨true, rfl, ?_⟩
    rw [if_pos rfl]
    refine lift_mk ht R3 (kx.ext ((e1.trans e2).trans e3)) q3 fun v4 H4 x4 R4 e4 r4 q4 => ?_
    exact s' F own Γ σ H4 u v4 y x4 Qd Q R4 (r2.ext R2 (e3.trans e4)) r4 q4 (k.ext (((e1.trans e2).trans e3).trans e4))
  · cases r3
    refine ⟨false, rfl, ?_⟩
    rw [if_neg (by decide)]
    exact k _ H3 (.c (dB false)) R3 ((e1.trans e2).trans e3) (.bl false) q3
  · exact q3.elim
end
end WL

set_option maxRecDepth 100000
set_option maxHeartbeats 1000000
namespace WL
open PySem PySem.Spec PyProof.Rows L2
section
variable {X : Cx} {tw : Tw} {W : WX} {a b c : Expr} {da db dc : DE} {ta tb : DT} {pos : Pos} {rest : List Expr}
theorem ve_lele (ha : VE X tw W a da) (hb : VE X tw W b db) (hc : VE X tw W c dc) (hm : lastMarks [CmpOp.LtE, CmpOp.LtE] [b, c] = false := by with_unfolding_all rfl) : VE X tw W (.Compare a [.LtE, .LtE] [b, c] pos) (dChain gLe gLe da db dc) :=
  PE.mono (pe_chain op_le op_le ha hb hc hm) fun _ _ _ => chain_sim (g := gLe) (g' := gLe) (sim_I fun _ _ _ => Dq.bl _) (sim_I fun _ _ _ => Dq.bl _)
theorem vt_lele (ha : VE X tw W a da) (hb : VE X tw W b db) (hc : VE X tw W c dc) (hm : lastMarks [CmpOp.LtE, CmpOp.LtE] [b, c] = false := by with_unfolding_all rfl) : VT X tw W (.Compare a [.LtE, .LtE] [b, c] pos) (dTest (dChain gLe gLe da db dc)) :=
  PT.mono (pt_chain op_le op_le ha hb hc hm) fun σ H Q h => by
    have q := test_sim h
    exact chain_sim (g := gLe) (g' := gLe) (sim_I fun _ _ _ => Dq.bl _) (sim_I fun _ _ _ => Dq.bl _) q
/-! ### and, or, not, if -/
def dAnd (t u : DT) : DT := fun Γ Q Ed => t Γ (fun k => if k = true then u Γ Q Ed else Q false) Ed
def dOr (t u : DT) : DT := fun Γ Q Ed => t Γ (fun k => if k = true then Q true else u Γ Q Ed) Ed
def dNot (t : DT) : DT := fun Γ Q Ed => t Γ (fun k => Q (!k)) Ed
theorem and_sim {t u : DT} {σ : L2.St} {H : Hp} {Q : Bool → Hp → Prop} (h : liftT tw W (dAnd t u) σ H Q) : tAnd (liftT tw W t) (liftT tw W u) σ H Q := by
  obtain ⟨F, own, Γ, Qd, Ed, ht, R, h, k, kx⟩ := h
  refine liftT_mk ht R kx h fun b H1 R1 e1 q1 => ?_
  cases b with
  | true =>
    rw [if_pos rfl] at q1 ⊢
    exact liftT_mk ht R1 (kx.ext e1) q1 fun b H2 R2 e2 q2 => k b H2 R2 (e1.trans e2) q2
  | false =>
    rw [if_neg (by decide)] at q1 ⊢
    exact k false H1 R1 e1 q1
theorem or_sim {t u : DT} {σ : L2.St} {H : Hp} {Q : Bool → Hp → Prop} (h : liftT tw W (dOr t u) σ H Q) : tOr (liftT tw W t) (liftT tw W u) σ H Q := by
  obtain ⟨F, own, Γ, Qd, Ed, ht, R, h, k, kx⟩ := h
  refine liftT_mk ht R kx h fun b H1 R1 e1 q1 => ?_
  cases b with
  | true =>
    rw [if_pos rfl] at q1 ⊢
    exact k true H1 R1 e1 q1
  | false =>
    rw [if_neg (by decide)] at q1 ⊢
    exact liftT_mk ht R1 (kx.ext e1) q1 fun b H2 R2 e2 q2 => k b H2 R2 (e1.trans e2) q2
theorem not_sim {t : DT} {σ : L2.St} {H : Hp} {Q : Bool → Hp → Prop} (h : liftT tw W (dNot t) σ H Q) : tNot (liftT tw W t) σ H Q := by
  obtain ⟨F, own, Γ, Qd, Ed, ht, R, h, k, kx⟩ := h
  exact liftT_mk ht R kx h fun b H1 R1 e1 q1 => k (!b) H1 R1 e1 q1
theorem vw_and1 (ha : VT X tw W a ta) : VW X tw W (.BoolOp .And [a] pos) ta := pw_and1 ha
theorem vw_or1 (ha : VT X tw W a ta) : VW X tw W (.BoolOp .Or [a] pos) ta := pw_or1 ha
theorem vw_and (ha : VT X tw W a ta) (hb : VW X tw W (.BoolOp .And (b :: rest) pos) tb) : VW X tw W (.BoolOp .And (a :: b :: rest) pos) (dAnd ta tb) := PW.mono (pw_and ha hb) fun _ _ _ => and_sim
theorem vw_or (ha : VT X tw W a ta) (hb : VW X tw W (.BoolOp .Or (b :: rest) pos) tb) : VW X tw W (.BoolOp .Or (a :: b :: rest) pos) (dOr ta tb) := PW.mono (pw_or ha hb) fun _ _ _ => or_sim
theorem vt_not (ha : VT X tw W a ta) : VT X tw W (.UnaryOp .Not a pos) (dNot ta) := PT.mono (pt_not ha) fun _ _ _ => not_sim
/-- as values -/
def dAndV (t u : DE) : DE := fun Γ Q Ed => t Γ (fun x => match x with
  | .c (.p (.bool k)) => if k = true then u Γ Q Ed else Q (.c (dB false))
  | _ => False) Ed
def dOrV (t u : DE) : DE := fun Γ Q Ed => t Γ (fun x => match x with
  | .c (.p (.bool k)) => if k = true then Q (.c (dB true)) else u Γ Q Ed
  | _ => False) Ed
def dNotV (t : DE) : DE := fun Γ Q Ed => t Γ (fun x => match x with
  | .c (.p (.bool k)) => Q (.c (dB (!k)))
  | _ => False) Ed
theorem andV_sim {t u : DE} {σ : L2.St} {H : Hp} {Q : VK} (h : lift tw W (dAndV t u) σ H Q) : tAndV (lift tw W t) (lift tw W u) σ H Q := by
  obtain ⟨F, own, Γ, Qd, Ed, ht, R, h, k, kx⟩ := h
  refine lift_mk ht R kx h fun v H1 x R1 e1 r1 q1 => ?_
  split at q1
  · rename_i b
    cases r1
    refine ⟨b, rfl, ?_⟩
    cases b with
    | true =>
      rw [if_pos rfl] at q1 ⊢
      exact ⟨F, own, Γ, Qd, Ed, ht, R1, q1, k.ext e1, kx.ext e1⟩
    | false =>
      rw [if_neg (by decide)] at q1 ⊢
      exact k _ H1 (.c (dB false)) R1 e1 (.bl false) q1
  · exact q1.elim
theorem orV_sim {t u : DE} {σ : L2.St} {H : Hp} {Q : VK} (h : lift tw W (dOrV t u) σ H Q) : tOrV (lift tw W t) (lift tw W u) σ H Q := by
  obtain ⟨F, own, Γ, Qd, Ed, ht, R, h, k, kx⟩ := h
  refine lift_mk ht R kx h fun v H1 x R1 e1 r1 q1 => ?_
  split at q1
  · rename_i b
    cases r1
    refine ⟨b, rfl, ?_⟩
    cases b with
    | false =>
      rw [if_neg (by decide)] at q1 ⊢
      exact ⟨F, own, Γ, Qd, Ed, ht, R1, q1, k.ext e1, kx.ext e1⟩
    | true =>
      rw [if_pos rfl] at q1 ⊢
      exact k _ H1 (.c (dB true)) R1 e1 (.bl true) q1
  · exact q1.elim
theorem notV_sim {t : DE} {σ : L2.St} {H : Hp} {Q : VK} (h : lift tw W (dNotV t) σ H Q) : tNotV (lift tw W t) σ H Q := by
  obtain ⟨F, own, Γ, Qd, Ed, ht, R, h, k, kx⟩ := h
  refine lift_mk ht R kx h fun v H1 x R1 e1 r1 q1 => ?_
  split at q1
  · rename_i b
    cases r1
    exact ⟨b, rfl, k _ H1 (.c (dB (!b))) R1 e1 (.bl _) q1⟩
  · exact q1.elim
theorem ve_one {op} {t : DE} (h : VE X tw W a t) : VE X tw W (.BoolOp op [a] pos) t := pe_one h
theorem ve_and (ha : VE X tw W a da) (hb : VE X tw W (.BoolOp .And (b :: rest) pos) db) : VE X tw W (.BoolOp .And (a :: b :: rest) pos) (dAndV da db) := PE.mono (pe_and ha hb) fun _ _ _ => andV_sim
theorem ve_or (ha : VE X tw W a da) (hb : VE X tw W (.BoolOp .Or (b :: rest) pos) db) : VE X tw W (.BoolOp .Or (a :: b :: rest) pos) (dOrV da db) := PE.mono (pe_or ha hb) fun _ _ _ => orV_sim
theorem ve_not (ha : VE X tw W a da) : VE X tw W (.UnaryOp .Not a pos) (dNotV da) := PE.mono (pe_not ha) fun _ _ _ => notV_sim
def dIfE (t : DT) (u v : DE) : DE := fun Γ Q Ed => t Γ (fun k => if k = true then u Γ Q Ed else v Γ Q Ed) Ed
theorem ifE_sim {t : DT} {u v : DE} {σ : L2.St} {H : Hp} {Q : VK} (h : lift tw W (dIfE t u v) σ H Q) : tIf (liftT tw W t) (lift tw W u) (lift tw W v) σ H Q := by
  obtain ⟨F, own, Γ, Qd, Ed, ht, R, h, k, kx⟩ := h
  refine liftT_mk ht R kx h fun b H1 R1 e1 q1 => ?_
  cases b with
  | true =>
    rw [if_pos rfl] at q1 ⊢
    exact ⟨F, own, Γ, Qd, Ed, ht, R1, q1, k.ext e1, kx.ext e1⟩
  | false =>
    rw [if_neg (by decide)] at q1 ⊢
    exact ⟨F, own, Γ, Qd, Ed, ht, R1, q1, k.ext e1, kx.ext e1⟩
theorem ve_if (hc : VT X tw W c ta) (ha : VE X tw W a da) (hb : VE X tw W b db) : VE X tw W (.IfExp c a b pos) (dIfE ta da db) := PE.mono (pe_ifExp hc ha hb) fun _ _ _ => ifE_sim
/-! ### arguments, displays -/
def dNil : DA := fun _ Q _ => Q []
def dCons (t : DE) (u : DA) : DA := fun Γ Q Ed => t Γ (fun x => u Γ (fun xs => Q (x :: xs)) Ed) Ed
theorem va_nil : VA X tw W [] dNil := PA.mono pa_nil fun σ H Q h => by
  obtain ⟨F, own, Γ, Qd, Ed, ht, R, h, k, kx⟩ := h
  exact k [] H [] R .refl .nil h
theorem va_cons {e : Expr} {es : List Expr} {t : DE} {u : DA} (ha : VE X tw W e t) (hr : VA X tw W es u) (hs : starEach (e :: es) X.env = (false, eval e X.env) :: starEach es X.env := by rfl) : VA X tw W (e :: es) (dCons t u) := PA.mono (pa_cons ha hr hs) fun σ H Q h => by
  obtain ⟨F, own, Γ, Qd, Ed, ht, R, h, k, kx⟩ := h
  refine lift_mk ht R kx h fun v H1 x R1 e1 r1 q1 => ?_
  exact liftA_mk ht R1 (kx.ext e1) q1 fun vs H2 xs R2 e2 r2 q2 => k (v :: vs) H2 (x :: xs) R2 (e1.trans e2) (.cons (r1.ext R1 e2) r2) q2
/-- values of data -/
def AV.dat (Q : PyData → Prop) : AV → Prop
  | .c (.p x) => Q x
  | .f (.p x) => Q x
  | _ => False
def dats (Q : List PyData → Prop) : List AV → Prop
  | [] => Q []
  | x :: xs => x.dat fun d => dats (fun ds => Q (d :: ds)) xs
theorem AV.dat_rep {F : Frm} {own : Nat → Option Addr} {H : Hp} {v : V} {P : PyData → Prop} : ∀ {x : AV}, RepAV F own H v x → x.dat P → ∃ d, P d ∧ Dq (vis F own H) v d ∧ x.any = .p d
  | .c (.p x), h, q => ⟨x, q, h, rfl⟩
  | .f (.p x), h, q => ⟨x, q, RepAV.clean h, rfl⟩
  | .c (.r _), _, q => q.elim
  | .c (.dct _ _), _, q => q.elim
  | .c (.k _ _), _, q => q.elim
  | .c (.fz _ _), _, q => q.elim
  | .f (.r _), _, q => q.elim
  | .f (.dct _ _), _, q => q.elim
  | .f (.k _ _), _, q => q.elim
  | .f (.fz _ _), _, q => q.elim
  | .b _, _, q => q.elim
theorem dats_rep {F : Frm} {own : Nat → Option Addr} {H : Hp} : ∀ {xs : List AV} {vs : List V} {P : List PyData → Prop}, RepAVs F own H vs xs → dats P xs → ∃ ds, P ds ∧ DqA (vis F own H) vs ds
  | [], _, _, .nil, q => ⟨[], q, .nil⟩
  | x :: xs, _, _, .cons r t, q => by
    obtain ⟨d, q1, r1, _⟩ := AV.dat_rep r q
    obtain ⟨ds, q2, r2⟩ := dats_rep t q1
    exact ⟨d :: ds, q2, .cons r1 r2⟩
theorem RepAVs.length {F : Frm} {own : Nat → Option Addr} {H : Hp} : ∀ {vs : List V} {xs : List AV}, RepAVs F own H vs xs → vs.length = xs.length
  | _, _, .nil => rfl
  | _, _, .cons _ t => congrArg (· + 1) (RepAVs.length t)
/-- a tuple, a list of data, written out (few items) -/
def dTup (t : DA) : DE := fun Γ Q Ed => t Γ (fun xs => xs.length ≤ 1000 ∧ dats (fun ds => Q (.c (.p (.tuple ds)))) xs) Ed
def dLst (t : DA) : DE := fun Γ Q Ed => t Γ (fun xs => xs.length ≤ 1000 ∧ dats (fun ds => Q (.f (.p (.list ds)))) xs) Ed
theorem line1000 {n : Nat} (h : n ≤ 1000) : n ≤ sizeLine := Nat.le_of_lt (small1000 h)
/-- a new tuple, its object known to have no dict -/
def tTupF (t : TA) : TE := fun σ H Q => t σ H fun xs H1 => xs.length ≤ sizeLine ∧ ∀ p (o : Obj), H1 p = none → o.dict = none → Q (.ref p) (upd H1 p (.frz o (.tup xs)))
theorem tup_laid {X : Cx} {pins : List (Addr × Obj)} {σ : L2.St} {H : Hp} {s : Shared} {xs : List V} {us : List Value} {Q : VK} (I : L2.Inv X pins σ H s) (r : Vals xs us) (z : xs.length ≤ sizeLine) (q : ∀ p (o : Obj), H p = none → o.dict = none → Q (.ref p) (upd H p (.frz o (.tup xs)))) :
    EP X pins σ Q (.ref s.heap.objs.size) { s with heap := s.heap.push { cls := .type "tuple", data := .seq us.toArray } } :=
  have e : (s.heap.push { cls := .type "tuple", data := .seq us.toArray }).get? s.heap.objs.size = some { cls := .type "tuple", data := .seq us.toArray } := Heap.get?_push_size _ rfl
  ⟨.ref s.heap.objs.size, _, I.laid (t' := s.toks) (o := .frz { cls := .type "tuple", data := .seq us.toArray } (.tup xs)) (fun _ _ k => Heap.get?_push_of_some _ k) (Nat.le_refl _) ⟨e, z, us, r, _, e, rfl, _, rfl⟩, rfl, q _ _ (I.hok.fresh (Nat.le_refl _)) rfl⟩
theorem pe_tupF {x1 : Nat} {es : List Expr} {t : TA} (h : PA X es t) : PE X (.Tuple es x1 pos) (tTupF t) :=
  ⟨fun pins s σ H Q I hq => wpAny_Tuple_spliced (thn (h.run pos pins s σ H _ I hq) fun us s1 ⟨xs, H1, I1, r, z, q⟩ => ⟨by rw [← r.length]; exact z, tup_laid I1 r z q⟩)⟩
theorem ve_tup {x1} {es : List Expr} {t : DA} (h : VA X tw W es t) : VE X tw W (.Tuple es x1 pos) (dTup t) := PE.mono (pe_tupF h) fun σ H Q h => by
  obtain ⟨F, own, Γ, Qd, Ed, ht, R, h, k, kx⟩ := h
  refine liftA_mk ht R kx h fun vs H1 xs R1 e1 r1 q1 => ?_
  obtain ⟨hl, q1⟩ := q1
  obtain ⟨ds, q2, r2⟩ := dats_rep r1 q1
  exact ⟨line1000 (by rw [r1.length]; exact hl), fun p o np ho => k _ _ _ (R1.new np) (e1.trans (ext_new np)) (R1.newT np ho r2) q2⟩
theorem ve_lst {es : List Expr} {t : DA} (h : VA X tw W es t) : VE X tw W (.List es pos) (dLst t) := PE.mono (pe_lst h) fun σ H Q h => by
  obtain ⟨F, own, Γ, Qd, Ed, ht, R, h, k, kx⟩ := h
  refine liftA_mk ht R kx h fun vs H1 xs R1 e1 r1 q1 => ?_
  obtain ⟨hl, q1⟩ := q1
  obtain ⟨ds, q2, r2⟩ := dats_rep r1 q1
  exact ⟨line1000 (by rw [r1.length]; exact hl), fun p np => k _ _ _ (R1.new np) (e1.trans (ext_new np)) (R1.newL np r2) q2⟩
/-! ### ==, !=, is None -/
mutual
/-- no dict, no truth value within -/
def nb : PyData → Bool
  | .none => true
  | .bool _ => false
  | .int _ => true
  | .str _ => true
  | .list xs => nbs xs
  | .tuple xs => nbs xs
  | .dict _ => false
def nbs : List PyData → Bool
  | [] => true
  | x :: xs => nb x && nbs xs
end
mutual
theorem nb_plain : ∀ d, nb d = true → d.plain = true
  | .none, _ => by simp only [PyData.plain]
  | .bool _, h => by simp [nb] at h
  | .int _, _ => by simp only [PyData.plain]
  | .str _, _ => by simp only [PyData.plain]
  | .list xs, h => by
    simp only [PyData.plain]
    exact nbs_plain xs (by simpa [nb] using h)
  | .tuple xs, h => by
    simp only [PyData.plain]
    exact nbs_plain xs (by simpa [nb] using h)
  | .dict _, h => by simp [nb] at h
theorem nbs_plain : ∀ ds, nbs ds = true → PyData.plainAll ds = true
  | [], _ => by simp only [PyData.plainAll]
  | d :: ds, h => by
    simp only [nbs, Bool.and_eq_true] at h
    simp only [PyData.plainAll, Bool.and_eq_true]
    exact ⟨nb_plain d h.1, nbs_plain ds h.2⟩
end
end
end WL

set_option maxRecDepth 100000
set_option maxHeartbeats 1000000
namespace WL
open PySem PySem.Spec PyProof.Rows L2
section
variable {X : Cx} {tw : Tw} {W : WX} {a b c e : Expr} {da db dc : DE} {ta tb : DT} {pos p : Pos} {es : List Expr} {t : DA}
theorem Kont.dat {F : Frm} {own : Nat → Option Addr} {Γ : List SV} {σ : L2.St} {H : Hp} {Qd : AV → Prop} {Q : VK} (k : Kont F own Γ σ H Qd Q) (R : Rel F own Γ σ H) {v : V} {d : PyData} (r : Dq (vis F own H) v d) (q : Qd (.c (.p d))) : Q v H := k.here R (x := .c (.p d)) r q
/-! ### ==, != of data; is None; in -/
def okEq (d e : PyData) : Prop := d.plain = true ∧ e.plain = true ∧ d.depth ≤ 60
def gEq : G2 := fun x y Q => match x.any, y.any with
  | .p d, .p e => okEq d e ∧ Q (.c (dB (PyData.eqv d e)))
  | _, _ => False
def gNe : G2 := fun x y Q => match x.any, y.any with
  | .p d, .p e => okEq d e ∧ Q (.c (dB (!PyData.eqv d e)))
  | _, _ => False
def rEqP (b : Bool) : R2 := fun x y H Q => ∃ d e, Dq H x d ∧ Dq H y e ∧ okEq d e ∧ Q (.bl (if b then PyData.eqv d e else !PyData.eqv d e)) H
theorem op_eqP (hu : X.A.units + 64 < cLine) : OpR X (compareOp .Eq) (rEqP true) := by
  intro pins s σ H x y v u Q I rx ry h
  obtain ⟨d, e, hd, he, ⟨o1, o2, o3⟩, q⟩ := h
  obtain ⟨as, r1⟩ := Dp.reads (X := X) I d x v (dq_dp d _ hd) rx
  obtain ⟨bs, r2⟩ := Dp.reads (X := X) I e y u (dq_dp e _ he) ry
  exact SeqAt.eq_plain r1 r2 o1 o2 (by omega) ⟨.bl _, H, I, rfl, q⟩
theorem op_neP (hu : X.A.units + 64 < cLine) : OpR X (compareOp .NotEq) (rEqP false) := by
  intro pins s σ H x y v u Q I rx ry h
  obtain ⟨d, e, hd, he, ⟨o1, o2, o3⟩, q⟩ := h
  obtain ⟨as, r1⟩ := Dp.reads (X := X) I d x v (dq_dp d _ hd) rx
  obtain ⟨bs, r2⟩ := Dp.reads (X := X) I e y u (dq_dp e _ he) ry
  exact SeqAt.ne_plain r1 r2 o1 o2 (by omega) ⟨.bl _, H, I, rfl, q⟩
theorem sim_eq : Sim2 (rEqP true) gEq := fun F own Γ σ H v u x y Qd Q R r1 r2 q k => by
  unfold gEq at q
  split at q
  · rename_i d e e1 e2
    have h1 := r1.any
    have h2 := r2.any
    rw [e1] at h1
    rw [e2] at h2
    exact ⟨d, e, h1, h2, q.1, k.dat R (.bl _) q.2⟩
  · exact q.elim
theorem sim_ne : Sim2 (rEqP false) gNe := fun F own Γ σ H v u x y Qd Q R r1 r2 q k => by
  unfold gNe at q
  split at q
  · rename_i d e e1 e2
    have h1 := r1.any
    have h2 := r2.any
    rw [e1] at h1
    rw [e2] at h2
    exact ⟨d, e, h1, h2, q.1, k.dat R (.bl _) q.2⟩
  · exact q.elim
theorem ve_eq {k : Nat} (hr : Room k X.A) (ha : VE X tw W a da) (hb : VE X tw W b db) : VE X tw W (.Compare a [.Eq] [b] pos) (dOp gEq da db) := ve_cmp (op_eqP hr.units) sim_eq ha hb
theorem ve_ne {k : Nat} (hr : Room k X.A) (ha : VE X tw W a da) (hb : VE X tw W b db) : VE X tw W (.Compare a [.NotEq] [b] pos) (dOp gNe da db) := ve_cmp (op_neP hr.units) sim_ne ha hb
theorem vt_eq {k : Nat} (hr : Room k X.A) (ha : VE X tw W a da) (hb : VE X tw W b db) : VT X tw W (.Compare a [.Eq] [b] pos) (dTest (dOp gEq da db)) := vt_cmp (op_eqP hr.units) sim_eq ha hb
theorem vt_ne {k : Nat} (hr : Room k X.A) (ha : VE X tw W a da) (hb : VE X tw W b db) : VT X tw W (.Compare a [.NotEq] [b] pos) (dTest (dOp gNe da db)) := vt_cmp (op_neP hr.units) sim_ne ha hb
/-- is it None? -/
def isN : D → Option Bool
  | .p .none => some true
  | .p _ => some false
  | .dct _ _ => some false
  | .r .non => some true
  | .r _ => some false
  | .k _ _ => none
  | .fz _ _ => some false
def gIs : G2 := fun x y Q => match y with
  | .c (.p .none) => (match isN x.any with
    | some b => Q (.c (dB b))
    | none => False)
  | _ => False
def gIsNot : G2 := fun x y Q => match y with
  | .c (.p .none) => (match isN x.any with
    | some b => Q (.c (dB (!b)))
    | none => False)
  | _ => False
theorem isN_ok {H : Hp} {v : V} : ∀ {x : D} {b : Bool}, Rep H v x → isN x = some b → decide (v = .non) = b
  | .p .none, b, h, e => by cases h; cases e; rfl
  | .p (.bool _), b, h, e => by cases h; cases e; rfl
  | .p (.int _), b, h, e => by cases h; cases e; rfl
  | .p (.str _), b, h, e => by cases h; cases e; rfl
  | .p (.list _), b, h, e => by cases h; cases e; rfl
  | .p (.tuple _), b, h, e => by cases h; cases e; rfl
  | .p (.dict _), b, h, e => by cases h
  | .dct _ _, b, ⟨_, _, h, _⟩, e => by subst h; cases e; rfl
  | .r u, b, h, e => by
    have h : v = u := h
    subst h
    cases v <;> (cases e; rfl)
  | .k _ _, b, _, e => by cases e
  | .fz _ _, b, ⟨_, _, _, h, _⟩, e => by subst h; cases e; rfl
theorem sim_is : Sim2 (fun x y H Q => y = .non ∧ Q (.bl (decide (x = .non))) H) gIs := fun F own Γ σ H v u x y Qd Q R r1 r2 q k => by
  unfold gIs at q
  split at q
  · cases r2
    split at q
    · rename_i b e
      rw [isN_ok r1.any e]
      exact ⟨rfl, k.dat R (.bl _) q⟩
    · exact q.elim
  · exact q.elim
theorem sim_isNot : Sim2 (fun x y H Q => y = .non ∧ Q (.bl (!decide (x = .non))) H) gIsNot := fun F own Γ σ H v u x y Qd Q R r1 r2 q k => by
  unfold gIsNot at q
  split at q
  · cases r2
    split at q
    · rename_i b e
      rw [isN_ok r1.any e]
      exact ⟨rfl, k.dat R (.bl _) q⟩
    · exact q.elim
  · exact q.elim
theorem ve_is (ha : VE X tw W a da) (hb : VE X tw W b db) : VE X tw W (.Compare a [.Is] [b] pos) (dOp gIs da db) := ve_cmp op_isN sim_is ha hb
theorem ve_isNot (ha : VE X tw W a da) (hb : VE X tw W b db) : VE X tw W (.Compare a [.IsNot] [b] pos) (dOp gIsNot da db) := ve_cmp op_notN sim_isNot ha hb
theorem vt_is (ha : VE X tw W a da) (hb : VE X tw W b db) : VT X tw W (.Compare a [.Is] [b] pos) (dTest (dOp gIs da db)) := vt_cmp op_isN sim_is ha hb
theorem vt_isNot (ha : VE X tw W a da) (hb : VE X tw W b db) : VT X tw W (.Compare a [.IsNot] [b] pos) (dTest (dOp gIsNot da db)) := vt_cmp op_notN sim_isNot ha hb
/-! ### dicts whose keys are tuples of ints -/
theorem keyD_is {P : Program} {w : World} {H : Hp} {h : Heap} {q : Addr} {k : List Int} (ok : HOk P w H h) (r : Dq H (.ref q) (.tuple (k.map PyData.int))) : (tupleKind (intKind P w)).is h k q := by
  cases r with
  | tup h1 h2 h3 =>
    rw [DqA.ints h3] at h1
    obtain ⟨_, _, its, rv, ob, e1, e2, n, e3⟩ := (show ObjOk P w H h q (.frz _ (.tup (k.map V.int))) from ok q _ h1)
    exact ⟨ob, its.toArray, n, e1, e2, e3, by simpa using items_of_vals rv⟩
theorem dx_dict {P : Program} {w : World} {H : Hp} {h : Heap} {a : Addr} {L : List Ent} {ks : List (List Int)} {ds : List PyData} (ok : HOk P w H h) (e : Rd H a (DXo a L)) (r : DxA H L ks ds) :
    (a == sysModules) = false ∧ L.length ≤ sizeLine ∧ ∃ xs : List (List Int × Addr × Value), Paired EntR L xs ∧ h.DictOfH (tupleKind (intKind P w)) a xs := by
  obtain ⟨h1, h2, h3, xs, hx, o, es, ep, he, hex, hd, hes⟩ := dx_get ok e
  refine ⟨h2, h1, xs, hx, o, es, ep, he, hex, hd, hes P w, fun x hm => ?_, ?_⟩
  · have all : ∀ {L : List Ent} {xs : List (List Int × Addr × Value)} {ks : List (List Int)} {ds : List PyData}, Paired EntR L xs → DxA H L ks ds → ∀ x ∈ xs, (tupleKind (intKind P w)).is h x.1 x.2.1 := by
      intro L xs ks ds q
      induction q generalizing ks ds with
      | nil => intro _ x hx; exact nomatch hx
      | cons a t ih =>
        intro d x hx
        cases d with
        | cons d1 d2 d3 =>
          rcases List.mem_cons.mp hx with e | hx
          · subst e
            obtain ⟨a1, a2, _⟩ := a
            rw [← a1, ← a2]
            exact keyD_is ok d1
          · exact ih d3 x hx
    exact all hx r x hm
  · have e2 : ∀ {L : List Ent} {xs : List (List Int × Addr × Value)}, Paired EntR L xs → L.map (fun p => p.1) = xs.map (·.1) := by
      intro L xs q
      induction q with
      | nil => rfl
      | cons a t ih => rw [List.map_cons, List.map_cons, ih, a.1]
    rw [← e2 hx]
    exact h3
/-- what stands at a key -/
def atD (ks : List (List Int)) (ds : List PyData) (k : List Int) : Option PyData := match ks, ds with
  | k' :: ks, d :: ds => if k' = k then some d else atD ks ds k
  | _, _ => none
def hasK (ks : List (List Int)) (k : List Int) : Bool := ks.any fun z => decide (z = k)
def atE : List Ent → List Int → Option V
  | [], _ => none
  | p :: L, k => if p.1 = k then some p.2.2 else atE L k
theorem ent_at {k : List Int} {L : List Ent} {xs : List (List Int × Addr × Value)} (q : Paired EntR L xs) :
    (∀ z, atE L k = some z → ∃ p, atKey xs k = some p ∧ RelV z p.2) ∧ (atKey xs k).isSome = (atE L k).isSome := by
  induction q with
  | nil => exact ⟨fun d e => by simp [atE] at e, rfl⟩
  | cons h t ih =>
    rename_i a b as bs
    obtain ⟨e1, e2, e3⟩ := h
    by_cases q : a.1 = k
    · have b1 : atKey (b :: bs) k = some b.2 := by simp [atKey, List.find?_cons, ← e1, q]
      have b2 : atE (a :: as) k = some a.2.2 := by unfold atE; rw [if_pos q]
      rw [b1, b2]
      exact ⟨fun d e => by cases e; exact ⟨b.2, rfl, e3⟩, rfl⟩
    · have b1 : atKey (b :: bs) k = atKey bs k := by simp [atKey, List.find?_cons, ← e1, q]
      have b2 : atE (a :: as) k = atE as k := by conv => lhs; unfold atE; rw [if_neg q]
      rw [b1, b2]
      exact ih
theorem dxa_at {I : Hp} {k : List Int} : ∀ {L : List Ent} {ks : List (List Int)} {ds : List PyData}, DxA I L ks ds →
    (∀ d, atD ks ds k = some d → ∃ z, atE L k = some z ∧ Dq I z d) ∧ (atE L k).isSome = hasK ks k
  | _, _, _, .nil => ⟨fun d e => by simp [atD] at e, rfl⟩
  | _, _, _, .cons (k := k') h1 h2 h3 => by
    obtain ⟨i1, i2⟩ := dxa_at (k := k) h3
    by_cases q : k' = k
    · refine ⟨fun d e => ?_, ?_⟩
      · unfold atD at e
        rw [if_pos q] at e
        cases e
        exact ⟨_, by unfold atE; rw [if_pos q], h2⟩
      · unfold atE hasK
        simp [q]
    · refine ⟨fun d e => ?_, ?_⟩
      · unfold atD at e
        rw [if_neg q] at e
        unfold atE
        rw [if_neg q]
        exact i1 d e
      · unfold atE hasK
        rw [if_neg q, i2]
        unfold hasK
        simp [q]
theorem dx_has {I : Hp} {k : List Int} {L : List Ent} {xs : List (List Int × Addr × Value)} {ks : List (List Int)} {ds : List PyData} (q : Paired EntR L xs) (d : DxA I L ks ds) : (atKey xs k).isSome = hasK ks k :=
  (ent_at q).2.trans (dxa_at d).2
/-- the ints of a tuple -/
def keyD : List PyData → Option (List Int)
  | [] => some []
  | .int i :: r => (keyD r).map (i :: ·)
  | _ :: _ => none
theorem keyD_ok : ∀ {ds : List PyData} {k : List Int}, keyD ds = some k → ds = k.map PyData.int
  | [], _, e => by cases e; rfl
  | .int i :: r, k, e => by
    unfold keyD at e
    cases q : keyD r with
    | none => rw [q] at e; cases e
    | some k' =>
      rw [q] at e
      cases e
      rw [keyD_ok q]
      rfl
  | .none :: _, _, e => by cases e
  | .bool _ :: _, _, e => by cases e
  | .str _ :: _, _, e => by cases e
  | .list _ :: _, _, e => by cases e
  | .tuple _ :: _, _, e => by cases e
  | .dict _ :: _, _, e => by cases e
theorem keyD_ints : ∀ k : List Int, keyD (k.map PyData.int) = some k
  | [] => rfl
  | i :: k => by
    simp only [List.map_cons, keyD, keyD_ints k]
    rfl
/-- x in xs, x not in xs: over a list, a tuple, a dict (its keys) -/
def rInP (neg : Bool) : R2 := fun x y H Q => (∃ d e xs, Dq H x d ∧ Dq H y e ∧ (e = .list xs ∨ e = .tuple xs) ∧ d.plain = true ∧ PyData.plainAll xs = true ∧ d.depth ≤ 60 ∧ Q (.bl (if neg then !(xs.any fun z => PyData.eqv z d) else xs.any fun z => PyData.eqv z d)) H) ∨
  ∃ a q L ks ds k, y = .ref a ∧ x = .ref q ∧ Rd H a (DXo a L) ∧ DxA H L ks ds ∧ Dq H (.ref q) (.tuple (k.map PyData.int)) ∧ Q (.bl (if neg then !hasK ks k else hasK ks k)) H
theorem op_inP (hu : X.A.units + 64 < cLine) : OpR X (compareOp .In) (rInP false) := by
  intro pins s σ H x y v u Q I rx ry h
  rcases h with ⟨d, e, xs, hd, he, hl, h1, h2, h3, q⟩ | ⟨a, b, L, ks, ds, k, rfl, rfl, ha, hx, hk, q⟩
  · obtain ⟨as, r1⟩ := Dp.reads (X := X) I d x v (dq_dp d _ hd) rx
    obtain ⟨bs, r2⟩ := Dp.reads (X := X) I e y u (dq_dp e _ he) ry
    rcases hl with rfl | rfl
    · exact SeqAt.in_list_data r2 r1 h2 h1 (by omega) ⟨.bl _, H, I, rfl, q⟩
    · exact SeqAt.in_tuple_data r2 r1 h2 h1 (by omega) ⟨.bl _, H, I, rfl, q⟩
  · cases rx
    cases ry
    obtain ⟨g1, _, xs, g2, g3⟩ := dx_dict I.hok ha hx
    refine wpAny_in_heap (tupleKind_room_in1 (by omega)) (keyD_is I.hok hk) g1 g3 ?_
    rw [dx_has g2 hx]
    exact ⟨.bl _, H, I.tok _, rfl, q⟩
theorem op_notInP (hu : X.A.units + 64 < cLine) : OpR X (compareOp .NotIn) (rInP true) := by
  intro pins s σ H x y v u Q I rx ry h
  rcases h with ⟨d, e, xs, hd, he, hl, h1, h2, h3, q⟩ | ⟨a, b, L, ks, ds, k, rfl, rfl, ha, hx, hk, q⟩
  · obtain ⟨as, r1⟩ := Dp.reads (X := X) I d x v (dq_dp d _ hd) rx
    obtain ⟨bs, r2⟩ := Dp.reads (X := X) I e y u (dq_dp e _ he) ry
    rcases hl with rfl | rfl
    · exact SeqAt.notIn_list_data r2 r1 h2 h1 (by omega) ⟨.bl _, H, I, rfl, q⟩
    · exact SeqAt.notIn_tuple_data r2 r1 h2 h1 (by omega) ⟨.bl _, H, I, rfl, q⟩
  · cases rx
    cases ry
    obtain ⟨g1, _, xs, g2, g3⟩ := dx_dict I.hok ha hx
    refine wpAny_notIn_heap (tupleKind_room_in1 (by omega)) (keyD_is I.hok hk) g1 g3 ?_
    rw [dx_has g2 hx]
    exact ⟨.bl _, H, I.tok _, rfl, q⟩
def gInP (neg : Bool) : G2 := fun x y Q => match x.any, y.any with
  | .p d, .p (.list xs) => d.plain = true ∧ PyData.plainAll xs = true ∧ d.depth ≤ 60 ∧ Q (.c (dB (if neg then !(xs.any fun z => PyData.eqv z d) else xs.any fun z => PyData.eqv z d)))
  | .p d, .p (.tuple xs) => d.plain = true ∧ PyData.plainAll xs = true ∧ d.depth ≤ 60 ∧ Q (.c (dB (if neg then !(xs.any fun z => PyData.eqv z d) else xs.any fun z => PyData.eqv z d)))
  | .p (.tuple is), e => (match e.isD, keyD is with
    | some (ks, _), some k => Q (.c (dB (if neg then !hasK ks k else hasK ks k)))
    | _, _ => False)
  | _, _ => False
theorem RepAV.key {F : Frm} {own : Nat → Option Addr} {H : Hp} {v : V} {x : AV} {is : List PyData} {k : List Int} (r : RepAV F own H v x) (ex : x.any = .p (.tuple is)) (ek : keyD is = some k) : ∃ q, v = .ref q ∧ Dq (vis F own H) (.ref q) (.tuple (k.map PyData.int)) := by
  obtain ⟨a, o, vs, rfl, h1, h2, h3⟩ := r.tup ex
  rw [keyD_ok ek] at h3
  exact ⟨a, rfl, .tup h1 h2 h3⟩
theorem sim_in {neg : Bool} : Sim2 (rInP neg) (gInP neg) := fun F own Γ σ H v u x y Qd Q R r1 r2 q k => by
  unfold gInP at q
  have h1 := r1.any
  have h2 := r2.any
  split at q
  · rename_i d xs e1 e2
    rw [e1] at h1
    rw [e2] at h2
    exact .inl ⟨d, _, xs, h1, h2, .inl rfl, q.1, q.2.1, q.2.2.1, k.dat R (.bl _) q.2.2.2⟩
  · rename_i d xs e1 e2
    rw [e1] at h1
    rw [e2] at h2
    exact .inl ⟨d, _, xs, h1, h2, .inr rfl, q.1, q.2.1, q.2.2.1, k.dat R (.bl _) q.2.2.2⟩
  · rename_i is e1 n1 n2
    split at q
    · rename_i ks ds kk ed ek
      obtain ⟨b, rfl, hb⟩ := r1.key e1 ek
      obtain ⟨a, L, rfl, hd, hk⟩ := r2.dic (by rw [← ed])
      exact .inr ⟨a, b, L, ks, ds, kk, rfl, rfl, hd, hk.sub sub_hide, dq_sub sub_hide _ _ hb, k.dat R (.bl _) q⟩
    · exact q.elim
  · exact q.elim
theorem ve_in {k : Nat} (hr : Room k X.A) (ha : VE X tw W a da) (hb : VE X tw W b db) (hm : behindInMarks .In b = false := by rfl) : VE X tw W (.Compare a [.In] [b] pos) (dOp (gInP false) da db) := ve_cmp (op_inP hr.units) sim_in ha hb hm
theorem ve_notIn {k : Nat} (hr : Room k X.A) (ha : VE X tw W a da) (hb : VE X tw W b db) (hm : behindInMarks .NotIn b = false := by rfl) : VE X tw W (.Compare a [.NotIn] [b] pos) (dOp (gInP true) da db) := ve_cmp (op_notInP hr.units) sim_in ha hb hm
theorem vt_in {k : Nat} (hr : Room k X.A) (ha : VE X tw W a da) (hb : VE X tw W b db) (hm : behindInMarks .In b = false := by rfl) : VT X tw W (.Compare a [.In] [b] pos) (dTest (dOp (gInP false) da db)) := vt_cmp (op_inP hr.units) sim_in ha hb hm
theorem vt_notIn {k : Nat} (hr : Room k X.A) (ha : VE X tw W a da) (hb : VE X tw W b db) (hm : behindInMarks .NotIn b = false := by rfl) : VT X tw W (.Compare a [.NotIn] [b] pos) (dTest (dOp (gInP true) da db)) := vt_cmp (op_notInP hr.units) sim_in ha hb hm
/-! ### an item of a list, a tuple -/
def rIxP (K : PySem.W.Frag) : R2 := fun x y H Q => rIxL K x y H Q ∨ rIxT K x y H Q
theorem ix_P : IxR X (rIxP X.K) := ix_list.or ix_tup
def gIx : G2 := fun x y Q => match x.any, y with
  | .p (.list xs), .c (.p (.int i)) => (match atI xs i with
    | some d => Q (.c (.p d))
    | none => False)
  | .p (.tuple xs), .c (.p (.int i)) => (match atI xs i with
    | some d => Q (.c (.p d))
    | none => False)
  | _, _ => False
theorem atI_rep {I : Hp} {vs : List V} {ds : List PyData} {i : Int} {d : PyData} (h : DqA I vs ds) (e : atI ds i = some d) : ∃ v, atI vs i = some v ∧ Dq I v d := by
  unfold atI at e ⊢
  rw [h.length]
  cases q : ixN ds.length i with
  | none => rw [q] at e; cases e
  | some j =>
    rw [q] at e
    exact h.get e
theorem sim_ix {K : PySem.W.Frag} : Sim2 (rIxP K) gIx := fun F own Γ σ H v u x y Qd Q R r1 r2 q k => by
  unfold gIx at q
  split at q
  · rename_i xs i e1
    cases r2
    split at q
    · rename_i d ed
      obtain ⟨a, vs, rfl, ha, hd⟩ := r1.lst e1
      obtain ⟨z, hz, rz⟩ := atI_rep hd ed
      exact .inl ⟨a, vs, i, z, rfl, rfl, .of ha, hz, k.dat R rz q⟩
    · exact q.elim
  · rename_i xs i e1
    cases r2
    split at q
    · rename_i d ed
      obtain ⟨a, o, vs, rfl, ha, _, hd⟩ := r1.tup e1
      obtain ⟨z, hz, rz⟩ := atI_rep hd ed
      exact .inr ⟨a, vs, i, z, rfl, rfl, sqT_frz (of_hide ha).1, hz, k.dat R rz q⟩
    · exact q.elim
  · exact q.elim
theorem ve_ix (ha : VE X tw W a da) (hb : VE X tw W b db) (hs : PlainIx b := by intro _ _; rfl) : VE X tw W (.Subscript a b pos) (dOp gIx da db) := PE.mono (pe_ix ix_P ha hb hs) fun _ _ _ => op_sim sim_ix
/-- d[k], d a dict of tuples -/
def gDGet : G2 := fun x y Q => match x.any.isD, y.any with
  | some (ks, ds), .p (.tuple is) => (match (keyD is).bind (atD ks ds) with
    | some d => Q (.c (.p d))
    | none => False)
  | _, _ => False
def rDGet : R2 := fun x y H Q => ∃ a q L ks ds k z, x = .ref a ∧ y = .ref q ∧ Rd H a (DXo a L) ∧ DxA H L ks ds ∧ Dq H (.ref q) (.tuple (k.map PyData.int)) ∧ atE L k = some z ∧ Q z H
theorem sim_dget : Sim2 rDGet gDGet := fun F own Γ σ H v u x y Qd Q R r1 r2 q k => by
  unfold gDGet at q
  split at q
  · rename_i ks ds is e1 e2
    split at q
    · rename_i d ed
      cases ek : keyD is with
      | none => rw [ek] at ed; cases ed
      | some kk =>
        rw [ek] at ed
        obtain ⟨b, rfl, hb⟩ := r2.key e2 ek
        obtain ⟨a, L, rfl, hd, hk⟩ := r1.dic e1
        obtain ⟨z, hz, dz⟩ := (dxa_at (k := kk) hk).1 d ed
        exact ⟨a, b, L, ks, ds, kk, z, rfl, rfl, hd, hk.sub sub_hide, dq_sub sub_hide _ _ hb, hz, k.dat R dz q⟩
    · exact q.elim
  · exact q.elim
theorem pe_dget {ta tb : TE} (hu : X.A.units + 64 < cLine) (ho : PE X a ta) (hi : PE X b tb) (hs : NoSl b) : PE X (.Subscript a b pos) (tOp rDGet ta tb) := by
  refine ⟨fun pins s σ H Q I h => ?_⟩
  refine subD_of PySem.F.slot_dict_getitem.lookup hs (thn (ho.run pins s σ H _ I h) fun u s1 ⟨x, H1, I1, rx, q1⟩ => thn (hi.run pins s1 σ H1 _ I1 q1) fun iv s2 ⟨y, H2, I2, ry, a, b, L, ks, ds, k, z, ex, ey, ha, hx, hk, hz, q2⟩ => ?_)
  subst ex
  subst ey
  cases rx
  cases ry
  obtain ⟨g1, _, xs, g2, g3⟩ := dx_dict I2.hok ha hx
  obtain ⟨p, hp, rp⟩ := (ent_at g2).1 z hz
  exact ⟨g3.typeIs, wpAny_getItem_heap (tupleKind_room_in1 (by omega)) (keyD_is I2.hok hk) g3 hp ⟨z, H2, I2.tok _, rp, q2⟩⟩
theorem ve_dget {k : Nat} (hr : Room k X.A) (ha : VE X tw W a da) (hb : VE X tw W b db) (hs : NoSl b := by intro _ _; rfl) : VE X tw W (.Subscript a b pos) (dOp gDGet da db) := PE.mono (pe_dget hr.units ha hb hs) fun _ _ _ => op_sim sim_dget
/-! ### slices of tuples and lists -/
def cutD (xs : List PyData) (lo hi : Option Int) : List PyData := (xs.drop (HT.sIx xs.length 0 lo)).take (HT.sIx xs.length xs.length hi - HT.sIx xs.length 0 lo)
abbrev DO := List SV → (Option Int → Prop) → (Value → Prop) → Prop
def liftO (tw : Tw) (W : WX) (t : DO) : TO := fun σ H Q => ∃ F own Γ Qd Ed, F.tw = tw ∧ Rel F own Γ σ H ∧ t Γ Qd Ed ∧ (∀ o H', Rel F own Γ σ H' → Ext F H H' → Qd o → Q o H') ∧ KonX F own Γ σ H Ed W
abbrev VO (X : Cx) (tw : Tw) (W : WX) (e : Option Expr) (t : DO) : Prop := PO X e (liftO tw W t)
theorem PO.mono {X : Cx} {e : Option Expr} {t t' : TO} (h : PO X e t) (m : ∀ σ H Q, t' σ H Q → t σ H Q) : PO X e t' := ⟨fun pins s σ H Q I q => h.run pins s σ H Q I (m σ H Q q)⟩
def dNo : DO := fun _ Q _ => Q none
def dSome (t : DE) : DO := fun Γ Q Ed => t Γ (fun x => match x with
  | .c (.p (.int i)) => Q (some i)
  | _ => False) Ed
theorem vo_none : VO X tw W none dNo := PO.mono po_none fun σ H Q h => by
  obtain ⟨F, own, Γ, Qd, Ed, ht, R, h, k, kx⟩ := h
  exact k none H R .refl h
theorem vo_some (h : VE X tw W e da) : VO X tw W (some e) (dSome da) := PO.mono (po_some h) fun σ H Q h => by
  obtain ⟨F, own, Γ, Qd, Ed, ht, R, h, k, kx⟩ := h
  refine lift_mk ht R kx h fun v H1 x R1 e1 r1 q1 => ?_
  split at q1
  · rename_i i
    cases r1
    exact ⟨i, rfl, k (some i) H1 R1 e1 q1⟩
  · exact q1.elim
/-- a tuple's slice: the tuple itself, or a new one -/
def rSlF (K : PySem.W.Frag) : V → Option Int → Option Int → Hp → VK → Prop := fun x lo hi H Q => ∃ a xs, x = .ref a ∧ SqT K H a xs ∧
  (HT.sIx xs.length 0 lo = 0 ∧ HT.sIx xs.length xs.length hi = xs.length → Q (.ref a) H) ∧ (¬ (HT.sIx xs.length 0 lo = 0 ∧ HT.sIx xs.length xs.length hi = xs.length) → ∀ p (o : Obj), H p = none → o.dict = none → Q (.ref p) (upd H p (.frz o (.tup (cutV xs lo hi)))))
theorem sl_tupF : SlR X (rSlF X.K) := by
  intro pins s σ H x v vl vu lo hi sl Q I rx hs pl pu ⟨a, xs, ex, hx, q1, q2⟩
  subst ex
  cases rx
  obtain ⟨its, r, ht, hz⟩ := I.tuple hx
  have hlen : its.length = xs.length := r.length.symm
  have hla : its.toArray.size = xs.length := by simp [hlen]
  refine ⟨"tuple", _, PyProof.Rows.slot_tuple_getitem.lookup, ht.typeIs, ?_⟩
  by_cases hw : HT.sIx xs.length 0 lo = 0 ∧ HT.sIx xs.length xs.length hi = xs.length
  · exact getItem_tuple_whole ht hs pl pu (by rw [hla]; exact hw) ⟨.ref a, H, I, rfl, q1 hw⟩
  · refine HT.getItem_tuple_cut ht hs pl pu (by rw [hla]; exact hw) ?_ (by rw [hla]; exact hz)
    rw [hla]
    have cv : Vals (cutV xs lo hi) ((its.drop (HT.sIx xs.length 0 lo)).take (HT.sIx xs.length xs.length hi - HT.sIx xs.length 0 lo)) := (r.drop _).take _
    exact tup_laid I cv (Nat.le_trans (cutV_length xs lo hi) hz) (q2 hw)
def rSlP (K : PySem.W.Frag) : V → Option Int → Option Int → Hp → VK → Prop := fun x lo hi H Q => rSlL K x lo hi H Q ∨ rSlF K x lo hi H Q
def dSl (te : DE) (tl th : DO) : DE := fun Γ Q Ed => te Γ (fun x => tl Γ (fun lo => th Γ (fun hi => match x.any with
  | .p (.list xs) => Q (.f (.p (.list (cutD xs lo hi))))
  | .p (.tuple xs) => Q (.c (.p (.tuple (cutD xs lo hi))))
  | _ => False) Ed) Ed) Ed
theorem cut_rep {I : Hp} {vs : List V} {ds : List PyData} (h : DqA I vs ds) (lo hi : Option Int) : DqA I (cutV vs lo hi) (cutD ds lo hi) := by
  unfold cutV cutD
  rw [h.length]
  exact (h.drop _).take _
theorem cutD_whole {xs : List PyData} {lo hi : Option Int} (h : HT.sIx xs.length 0 lo = 0 ∧ HT.sIx xs.length xs.length hi = xs.length) : cutD xs lo hi = xs := by
  unfold cutD
  rw [h.1, h.2]
  simp
theorem ve_slice {lo hi : Option Expr} {tl th : DO} {p2 : Pos} (he : VE X tw W e da) (hl : VO X tw W lo tl) (hh : VO X tw W hi th) : VE X tw W (.Subscript e (.Slice lo hi none p2) pos) (dSl da tl th) :=
  PE.mono (pe_slice (r := rSlP X.K) (sl_list.or sl_tupF) he hl hh) fun σ H Q h => by
    obtain ⟨F, own, Γ, Qd, Ed, ht, R, h, k, kx⟩ := h
    refine lift_mk ht R kx h fun v H1 x R1 e1 r1 q1 => ?_
    refine ⟨F, own, Γ, _, Ed, ht, R1, q1, fun lo H2 R2 e2 q2 => ?_, kx.ext e1⟩
    refine ⟨F, own, Γ, _, Ed, ht, R2, q2, fun hi H3 R3 e3 q3 => ?_, kx.ext (e1.trans e2)⟩
    have r3 := r1.ext R1 (e2.trans e3)
    have e13 := (e1.trans e2).trans e3
    split at q3
    · rename_i xs ex
      obtain ⟨aa, vs, rfl, ha, hd⟩ := r3.lst ex
      refine .inl ⟨aa, vs, rfl, .of ha, fun pp np => k _ _ _ (R3.new np) (e13.trans (ext_new np)) (R3.newL np (cut_rep hd lo hi)) q3⟩
    · rename_i xs ex
      obtain ⟨aa, oo, vs, rfl, ha, hod, hd⟩ := r3.tup ex
      refine .inr ⟨aa, vs, rfl, sqT_frz (of_hide ha).1, fun hw => ?_, fun _ pp o np ho => k _ _ _ (R3.new np) (e13.trans (ext_new np)) (R3.newT np ho (cut_rep hd lo hi)) q3⟩
      rw [hd.length] at hw
      rw [cutD_whole hw] at q3
      exact k _ H3 (.c (.p _)) R3 e13 (Dq.tup ha hod hd) q3
    · exact q3.elim
/-! ### tuple + tuple, list + list -/
def rCatF (K : PySem.W.Frag) : R2 := fun x y H Q => ∃ a b xs ys, x = .ref a ∧ y = .ref b ∧ SqT K H a xs ∧ SqT K H b ys ∧ xs.length + ys.length ≤ sizeLine ∧
  (xs = [] → Q (.ref b) H) ∧ (xs ≠ [] → ys = [] → Q (.ref a) H) ∧ (xs ≠ [] → ys ≠ [] → ∀ p (o : Obj), H p = none → o.dict = none → Q (.ref p) (upd H p (.frz o (.tup (xs ++ ys)))))
theorem op_catF : OpR X (binaryOp .Add) (rCatF X.K) := by
  intro pins s σ H x y v u Q I rx ry ⟨a, b, xs, ys, ex, ey, ha, hb, hz, q0, q1, q2⟩
  subst ex ey
  cases rx
  cases ry
  obtain ⟨its, r1, p1, _⟩ := I.tuple ha
  obtain ⟨jts, r2, p2, _⟩ := I.tuple hb
  have l1 := r1.length
  have l2 := r2.length
  by_cases hx : xs = []
  · subst hx
    cases r1
    exact cat_tup0 p1 p2 ⟨.ref b, H, I, rfl, q0 rfl⟩
  · have n1 : its ≠ [] := fun e => hx (r1.nil_iff.mp e)
    refine HT.cat_tup p1 p2 n1 (fun e => ⟨.ref a, H, I, rfl, q1 hx (r2.nil_iff.mp e)⟩) (fun e => ?_) (by omega)
    exact tup_laid I (r1.append r2) (by rw [List.length_append]; exact hz) (q2 hx fun z => e (r2.nil_iff.mpr z))
def rAddP (K : PySem.W.Frag) : R2 := fun x y H Q => rI0 (fun i j => .int (i + j)) x y H Q ∨ rCatF K x y H Q ∨ rCat x y H Q
def gAddP : G2 := fun x y Q => match x.any, y.any with
  | .p (.int i), .p (.int j) => Q (.c (dI (i + j)))
  | .p (.tuple xs), .p (.tuple ys) => xs.length + ys.length ≤ 1000 ∧ Q (.c (.p (.tuple (xs ++ ys))))
  | .p (.list xs), .p (.list ys) => xs.length + ys.length ≤ 100000 ∧ Q (.f (.p (.list (xs ++ ys))))
  | _, _ => False
theorem DqA.nil_iff {I : Hp} {vs : List V} {ds : List PyData} (h : DqA I vs ds) : vs = [] ↔ ds = [] := by
  cases h <;> simp
theorem op_addP : OpR X (binaryOp .Add) (rAddP X.K) := op_add.or (op_catF.or op_cat)
theorem sim_addP {K : PySem.W.Frag} : Sim2 (rAddP K) gAddP := fun F own Γ σ H v u x y Qd Q R r1 r2 q k => by
  unfold gAddP at q
  split at q
  · rename_i i j e1 e2
    have h1 := r1.any
    have h2 := r2.any
    rw [e1] at h1
    rw [e2] at h2
    cases h1
    cases h2
    exact .inl ⟨i, j, rfl, rfl, k.dat R (.int _) q⟩
  · rename_i xs ys e1 e2
    obtain ⟨aa, oa, vs, rfl, ha, hda, hd⟩ := r1.tup e1
    obtain ⟨bb, ob, ws, rfl, hb, hdb, he⟩ := r2.tup e2
    refine .inr (.inl ⟨aa, bb, vs, ws, rfl, rfl, sqT_frz (of_hide ha).1, sqT_frz (of_hide hb).1, line1000 (by rw [hd.length, he.length]; exact q.1), fun z => ?_, fun _ z => ?_, fun _ _ pp o np ho => k _ _ _ (R.new np) (ext_new np) (R.newT np ho (hd.append he)) q.2⟩)
    · have z' := hd.nil_iff.mp z
      have q2 := q.2
      rw [z', List.nil_append] at q2
      exact k.dat R (Dq.tup hb hdb he) q2
    · have z' := he.nil_iff.mp z
      have q2 := q.2
      rw [z', List.append_nil] at q2
      exact k.dat R (Dq.tup ha hda hd) q2
  · rename_i xs ys e1 e2
    obtain ⟨aa, vs, rfl, ha, hd⟩ := r1.lst e1
    obtain ⟨bb, ws, rfl, hb, he⟩ := r2.lst e2
    exact .inr (.inr ⟨aa, bb, vs, ws, rfl, rfl, ha, hb, by rw [hd.length, he.length, sizeLine_eq]; omega, fun pp np => k _ _ _ (R.new np) (ext_new np) (R.newL np (hd.append he)) q.2⟩)
  · exact q.elim
theorem ve_addP (ha : VE X tw W a da) (hb : VE X tw W b db) : VE X tw W (.BinOp a .Add b pos) (dOp gAddP da db) := ve_op op_addP sim_addP ha hb
end
end WL

set_option maxRecDepth 100000
set_option maxHeartbeats 1000000
namespace WL
open PySem PySem.Spec PyProof.Rows L2
/-- the built-in names stand as they are -/
structure Blt (mg : Str → Option Value) : Prop where
  abs : mg "abs" = none
  all : mg "all" = none
  any : mg "any" = none
  bool : mg "bool" = none
  enumerate : mg "enumerate" = none
  int : mg "int" = none
  isinstance : mg "isinstance" = none
  len : mg "len" = none
  list : mg "list" = none
  max : mg "max" = none
  min : mg "min" = none
  range : mg "range" = none
  set : mg "set" = none
  sorted : mg "sorted" = none
  str : mg "str" = none
  sum : mg "sum" = none
  tuple : mg "tuple" = none
  zip : mg "zip" = none
theorem bb_abs : bootBuiltins "abs" = some (.builtin "abs") := by decide +kernel
theorem bb_all : bootBuiltins "all" = some (.builtin "all") := by decide +kernel
theorem bb_any : bootBuiltins "any" = some (.builtin "any") := by decide +kernel
theorem bb_bool : bootBuiltins "bool" = some (.type "bool") := by decide +kernel
theorem bb_enumerate : bootBuiltins "enumerate" = some (.type "enumerate") := by decide +kernel
theorem bb_int : bootBuiltins "int" = some (.type "int") := by decide +kernel
theorem bb_isinstance : bootBuiltins "isinstance" = some (.builtin "isinstance") := by decide +kernel
theorem bb_len : bootBuiltins "len" = some (.builtin "len") := by decide +kernel
theorem bb_list : bootBuiltins "list" = some (.type "list") := by decide +kernel
theorem bb_max : bootBuiltins "max" = some (.builtin "max") := by decide +kernel
theorem bb_min : bootBuiltins "min" = some (.builtin "min") := by decide +kernel
theorem bb_set : bootBuiltins "set" = some (.type "set") := by decide +kernel
theorem bb_sorted : bootBuiltins "sorted" = some (.builtin "sorted") := by decide +kernel
theorem bb_str : bootBuiltins "str" = some (.type "str") := by decide +kernel
theorem bb_sum : bootBuiltins "sum" = some (.builtin "sum") := by decide +kernel
theorem bb_tuple : bootBuiltins "tuple" = some (.type "tuple") := by decide +kernel
section
variable {X : Cx} {tw : Tw} {W : WX} {a b c e : Expr} {da db dc : DE} {ta tb : DT} {pos p : Pos} {es : List Expr} {t : DA}
/-! ### calls of built-ins -/
/-- plain arguments -/
def ArgsOk (X : Cx) (pos : Pos) (e : Expr) (es : List Expr) : Prop := starEach (e :: es) X.env = (false, eval e X.env) :: starEach es X.env ∧ (backTo pos (starEach es X.env)).any (·.1) = false
abbrev GC := List AV → (AV → Prop) → Prop
def SimC (r : List V → Hp → VK → Prop) (g : GC) : Prop := ∀ (F : Frm) (own : Nat → Option Addr) (Γ : List SV) (σ : L2.St) (H : Hp) (vs : List V) (xs : List AV) (Qd : AV → Prop) (Q : VK),
  Rel F own Γ σ H → RepAVs F own H vs xs → g xs Qd → Kont F own Γ σ H Qd Q → r vs H Q
def dCB (g : GC) (t : DA) : DE := fun Γ Q Ed => t Γ (fun xs => g xs Q) Ed
theorem cb_sim {r : List V → Hp → VK → Prop} {g : GC} {t : DA} {σ : L2.St} {H : Hp} {Q : VK} (s : SimC r g) (h : lift tw W (dCB g t) σ H Q) : tCB r (liftA tw W t) σ H Q := by
  obtain ⟨F, own, Γ, Qd, Ed, ht, R, h, k, kx⟩ := h
  exact liftA_mk ht R kx h fun vs H1 xs R1 e1 r1 q1 => s F own Γ σ H1 vs xs Qd Q R1 r1 q1 (k.ext e1)
theorem ve_callB {id : String} {x : Str} {r : List V → Hp → VK → Prop} {g : GC} (hc : CallR X (.builtin id) r) (s : SimC r g) (hg : Gl X x) (hm : X.mg x = none) (hv : bootBuiltins x = some (.builtin id)) (ha : VA X tw W (e :: es) t) (hn : x ≠ "__name__" := by decide) (hdb : (x == ("__debug__" : Str)) = false := by decide)
    (hA : ArgsOk X pos e es := by exact ⟨rfl, rfl⟩) : VE X tw W (.Call (.Name x p) (e :: es) [] pos) (dCB g t) :=
  PE.mono (pe_callB hc hg hm hv ha hn hdb hA.1 hA.2) fun _ _ _ => cb_sim s
theorem ve_callTy {T : String} {x : Str} {r : List V → Hp → VK → Prop} {g : GC} (hc : CallR X (.type T) r) (s : SimC r g) (hg : Gl X x) (hm : X.mg x = none) (hv : bootBuiltins x = some (.type T)) (ha : VA X tw W (e :: es) t) (hn : x ≠ "__name__" := by decide) (hdb : (x == ("__debug__" : Str)) = false := by decide)
    (hA : ArgsOk X pos e es := by exact ⟨rfl, rfl⟩) : VE X tw W (.Call (.Name x p) (e :: es) [] pos) (dCB g t) :=
  PE.mono (pe_callTy hc hg hm hv ha hn hdb hA.1 hA.2) fun _ _ _ => cb_sim s
/-- len -/
def gLen : GC := fun xs Q => match xs with
  | [x] => (match x.any with
    | .p (.list ds) => Q (.c (dI ds.length))
    | .p (.tuple ds) => Q (.c (dI ds.length))
    | .p (.str s) => s.length ≤ 100000 ∧ Q (.c (dI s.length))
    | e => (match e.isD with
      | some (ks, _) => Q (.c (dI ks.length))
      | none => False))
  | _ => False
def rLenD : List V → Hp → VK → Prop := fun xs H Q => ∃ (p : Addr) (L : List Ent) (ks : List (List Int)) (ds : List PyData), xs = [.ref p] ∧ Rd H p (DXo p L) ∧ DxA H L ks ds ∧ Q (.int ((ks.length : Nat) : Int)) H
theorem call_len_dx : CallR X (.builtin "len") rLenD := by
  intro pins s σ H xs us Q I r h
  obtain ⟨p, L, ks, ds, rfl, hp, hx, q⟩ := h
  obtain ⟨u, rfl, rx⟩ := vals1 r
  obtain rfl : u = .ref p := rx
  obtain ⟨hd, z, ys, rel, dd⟩ := dx_dict I.hok hp hx
  have hl : L.length = ys.length := Paired.length rel
  have hk : L.length = ks.length := by rw [← hx.keys, List.length_map]
  refine call_len_dictH hd dd (by rw [← hl]; rw [sizeLine_eq] at z; omega) ?_
  rw [← hl, hk]
  exact ⟨.int ((ks.length : Nat) : Int), H, I.tok _, ⟨_, rfl⟩, q⟩
theorem len_ok : CallR X (.builtin "len") (fun xs H Q => (∃ x n, xs = [x] ∧ LenV X.K x H n ∧ Q (.int n) H) ∨ rLenD xs H Q) := call_len.or call_len_dx
theorem sim_len {K : PySem.W.Frag} : SimC (fun xs H Q => (∃ x n, xs = [x] ∧ LenV K x H n ∧ Q (.int n) H) ∨ rLenD xs H Q) gLen := fun F own Γ σ H vs xs Qd Q R rs q k => by
  unfold gLen at q
  split at q
  · rename_i x
    cases rs with
    | cons r rn =>
      cases rn
      split at q
      · rename_i ds ex
        obtain ⟨aa, ws, rfl, ha, hd⟩ := r.lst ex
        exact .inl ⟨_, ds.length, rfl, .inl ⟨ws, .of ha, hd.length.symm⟩, k.dat R (.int _) q⟩
      · rename_i ds ex
        obtain ⟨aa, o, ws, rfl, ha, ho, hd⟩ := r.tup ex
        exact .inl ⟨_, ds.length, rfl, .inr ⟨ws, sqT_frz (of_hide ha).1, hd.length.symm⟩, k.dat R (.int _) q⟩
      · rename_i s ex
        have h1 := r.any
        rw [ex] at h1
        cases h1
        exact .inl ⟨_, s.length, rfl, ⟨by rw [sizeLine_eq]; omega, rfl⟩, k.dat R (.int _) q.2⟩
      · split at q
        · rename_i ks ds ex
          obtain ⟨aa, L, rfl, ha, hd⟩ := r.dic ex
          exact .inr ⟨aa, L, ks, ds, rfl, ha, hd.sub sub_hide, k.dat R (.int _) q⟩
        · exact q.elim
  · exact q.elim
theorem ve_len (B : Blt X.mg) (hg : Gl X "len") (ha : VA X tw W [e] t) (hA : ArgsOk X pos e [] := by exact ⟨rfl, rfl⟩) : VE X tw W (.Call (.Name "len" p) [e] [] pos) (dCB gLen t) := ve_callB len_ok sim_len hg B.len bb_len ha (hA := hA)
/-- isinstance of a built-in class -/
def isTy (n : String) : D → Option Bool
  | .p .none => some false
  | .p (.bool _) => some (n == "bool" || n == "int")
  | .p (.int _) => some (n == "int")
  | .p (.str _) => some (n == "str")
  | .p (.list _) => some (n == "list")
  | .p (.tuple _) => some (n == "tuple")
  | _ => none
def gIsi (n : String) : GC := fun xs Q => match xs with
  | [x, .c (.r (.ty m))] => m = n ∧ (match isTy n x.any with
    | some b => Q (.c (dB b))
    | none => False)
  | _ => False
def okTy (n : String) : Bool := n == "bool" || n == "int" || n == "str" || n == "list" || n == "tuple"
theorem kit_all : ∀ n ∈ ["bool", "int", "str", "list", "tuple"], kitB "NoneType" n = some false ∧ kitB "bool" n = some (n == "bool" || n == "int") ∧ kitB "int" n = some (n == "int") ∧ kitB "str" n = some (n == "str") ∧ kitB "list" n = some (n == "list") ∧ kitB "tuple" n = some (n == "tuple") ∧ kitB "dict" n = some false := by decide +kernel
theorem isTy_ok {K : PySem.W.Frag} {H : Hp} {v : V} {n : String} (hn : n ∈ ["bool", "int", "str", "list", "tuple"]) : ∀ {x : D} {b : Bool}, Rep H v x → isTy n x = some b → ∃ t, TyX K H v t ∧ PySem.W.kitOne K t (.type n) = some b
  | .p .none, b, h, e => by cases h; cases e; exact ⟨_, .base .non, kit_ty (kit_all n hn).1⟩
  | .p (.bool _), b, h, e => by cases h; cases e; exact ⟨_, .base (.bl _), kit_ty (kit_all n hn).2.1⟩
  | .p (.int _), b, h, e => by cases h; cases e; exact ⟨_, .base (.int _), kit_ty (kit_all n hn).2.2.1⟩
  | .p (.str _), b, h, e => by cases h; cases e; exact ⟨_, .base (.str _), kit_ty (kit_all n hn).2.2.2.1⟩
  | .p (.list _), b, h, e => by
    cases h with
    | lst h1 h2 => cases e; exact ⟨_, .base (.lst h1), kit_ty (kit_all n hn).2.2.2.2.1⟩
  | .p (.tuple _), b, h, e => by
    cases h with
    | tup h1 h2 h3 => cases e; exact ⟨_, .fTuple h1, kit_ty (kit_all n hn).2.2.2.2.2.1⟩
  | .dct _ _, b, _, e => by cases e
  | .k _ _, b, _, e => by cases e
  | .fz _ _, b, _, e => by cases e
  | .p (.dict _), b, h, e => by cases h
  | .r _, b, h, e => by cases e
theorem sim_isi {K : PySem.W.Frag} {n : String} (hn : n ∈ ["bool", "int", "str", "list", "tuple"]) : SimC (rIsi K) (gIsi n) := fun F own Γ σ H vs xs Qd Q R rs q k => by
  unfold gIsi at q
  split at q
  · rename_i x m
    obtain ⟨rfl, q⟩ := q
    cases rs with
    | cons r rn =>
      cases rn with
      | cons r2 rn =>
        cases rn
        split at q
        · rename_i b eb
          obtain ⟨t, h1, h2⟩ := isTy_ok (K := K) hn r.any eb
          cases r2
          exact ⟨_, _, t, _, b, rfl, .ty m, h1, h2, k.dat R (.bl _) q⟩
        · exact q.elim
  · exact q.elim
theorem ve_ty {x : Str} {n : String} (hg : Gl X x) (hm : X.mg x = none) (hv : bootBuiltins x = some (.type n)) (hn : x ≠ "__name__" := by decide) (hd : (x == ("__debug__" : Str)) = false := by decide) : VE X tw W (.Name x pos) (dC (.r (.ty n))) := PE.mono (pe_bltn (v := .ty n) hg hm hv rfl hn hd) fun _ _ _ => con_sim fun _ => rfl
theorem ve_isi {n : String} {x : Str} {p2 : Pos} (B : Blt X.mg) (hg : Gl X "isinstance") (hgx : Gl X x) (hmx : X.mg x = none) (hvx : bootBuiltins x = some (.type n)) (hn : n ∈ ["bool", "int", "str", "list", "tuple"]) (ha : VE X tw W a da) (hnx : x ≠ "__name__" := by decide) (hdx : (x == ("__debug__" : Str)) = false := by decide)
    (hA : ArgsOk X pos a [.Name x p2] := by exact ⟨rfl, rfl⟩) :
    VE X tw W (.Call (.Name "isinstance" p) [a, .Name x p2] [] pos) (dCB (gIsi n) (dCons da (dCons (dC (.r (.ty n))) dNil))) := ve_callB call_isi (sim_isi hn) hg B.isinstance bb_isinstance (va_cons ha (va_cons (ve_ty hgx hmx hvx hnx hdx) va_nil) hA.1) (hA := hA)
/-- all, any of truth values -/
def boolsD : List PyData → Option (List Bool)
  | [] => some []
  | .bool b :: r => (boolsD r).map (b :: ·)
  | _ :: _ => none
theorem boolsD_ok {I : Hp} : ∀ {ds : List PyData} {vs : List V} {bs : List Bool}, DqA I vs ds → boolsD ds = some bs → vs = bs.map V.bl
  | [], _, _, .nil, e => by cases e; rfl
  | .bool b :: r, _, bs, .cons h t, e => by
    cases h
    unfold boolsD at e
    cases q : boolsD r with
    | none => rw [q] at e; cases e
    | some bs' =>
      rw [q] at e
      cases e
      rw [boolsD_ok t q]
      rfl
  | .none :: _, _, _, _, e => by cases e
  | .int _ :: _, _, _, _, e => by cases e
  | .str _ :: _, _, _, _, e => by cases e
  | .list _ :: _, _, _, _, e => by cases e
  | .tuple _ :: _, _, _, _, e => by cases e
  | .dict _ :: _, _, _, _, e => by cases e
theorem boolsD_map {α : Type} (f : α → Bool) : ∀ xs : List α, boolsD (xs.map fun x => .bool (f x)) = some (xs.map f)
  | [] => rfl
  | x :: xs => by
    simp only [List.map_cons, boolsD, boolsD_map f xs]
    rfl
def gAll : GC := fun xs Q => match xs with
  | [x] => (match x.any with
    | .p (.list ds) => (match boolsD ds with
      | some bs => Q (.c (dB (bs.all id)))
      | none => False)
    | _ => False)
  | _ => False
def gAny : GC := fun xs Q => match xs with
  | [x] => (match x.any with
    | .p (.list ds) => (match boolsD ds with
      | some bs => Q (.c (dB (bs.any id)))
      | none => False)
    | _ => False)
  | _ => False
theorem sim_all {K : PySem.W.Frag} : SimC (rAll K) gAll := fun F own Γ σ H vs xs Qd Q R rs q k => by
  unfold gAll at q
  split at q
  · cases rs with
    | cons r rn =>
      cases rn
      split at q
      · rename_i ds ex
        split at q
        · rename_i bs eb
          obtain ⟨aa, ws, rfl, ha, hd⟩ := r.lst ex
          rw [boolsD_ok hd eb] at ha
          exact ⟨aa, bs, rfl, .of ha, k.dat R (.bl _) q⟩
        · exact q.elim
      · exact q.elim
  · exact q.elim
theorem sim_any {K : PySem.W.Frag} : SimC (rAny K) gAny := fun F own Γ σ H vs xs Qd Q R rs q k => by
  unfold gAny at q
  split at q
  · cases rs with
    | cons r rn =>
      cases rn
      split at q
      · rename_i ds ex
        split at q
        · rename_i bs eb
          obtain ⟨aa, ws, rfl, ha, hd⟩ := r.lst ex
          rw [boolsD_ok hd eb] at ha
          exact ⟨aa, bs, rfl, .of ha, k.dat R (.bl _) q⟩
        · exact q.elim
      · exact q.elim
  · exact q.elim
theorem ve_all (B : Blt X.mg) (hc : X.calm = true) (hg : Gl X "all") (ha : VA X tw W [e] t) (hA : ArgsOk X pos e [] := by exact ⟨rfl, rfl⟩) : VE X tw W (.Call (.Name "all" p) [e] [] pos) (dCB gAll t) := ve_callB (cr_all hc) sim_all hg B.all bb_all ha (hA := hA)
theorem ve_any (B : Blt X.mg) (hc : X.calm = true) (hg : Gl X "any") (ha : VA X tw W [e] t) (hA : ArgsOk X pos e [] := by exact ⟨rfl, rfl⟩) : VE X tw W (.Call (.Name "any" p) [e] [] pos) (dCB gAny t) := ve_callB (cr_any hc) sim_any hg B.any bb_any ha (hA := hA)
/-- abs, max, min of ints -/
def gAbs : GC := fun xs Q => match xs with
  | [.c (.p (.int i))] => Q (.c (dI (if i < 0 then -i else i)))
  | _ => False
def gMax2 : GC := fun xs Q => match xs with
  | [.c (.p (.int i)), .c (.p (.int j))] => Q (.c (dI (if j > i then j else i)))
  | _ => False
def gMin2 : GC := fun xs Q => match xs with
  | [.c (.p (.int i)), .c (.p (.int j))] => Q (.c (dI (if j < i then j else i)))
  | _ => False
theorem sim_abs : SimC (fun xs H Q => ∃ i, xs = [.int i] ∧ Q (.int (if i < 0 then -i else i)) H) gAbs := fun F own Γ σ H vs xs Qd Q R rs q k => by
  unfold gAbs at q
  split at q
  · cases rs with
    | cons r rn =>
      cases rn
      cases r
      exact ⟨_, rfl, k.dat R (.int _) q⟩
  · exact q.elim
theorem sim_max2 : SimC (fun xs H Q => ∃ i j, xs = [.int i, .int j] ∧ Q (.int (if j > i then j else i)) H) gMax2 := fun F own Γ σ H vs xs Qd Q R rs q k => by
  unfold gMax2 at q
  split at q
  · cases rs with
    | cons r rn =>
      cases rn with
      | cons r2 rn =>
        cases rn
        cases r
        cases r2
        exact ⟨_, _, rfl, k.dat R (.int _) q⟩
  · exact q.elim
theorem sim_min2 : SimC (fun xs H Q => ∃ i j, xs = [.int i, .int j] ∧ Q (.int (if j < i then j else i)) H) gMin2 := fun F own Γ σ H vs xs Qd Q R rs q k => by
  unfold gMin2 at q
  split at q
  · cases rs with
    | cons r rn =>
      cases rn with
      | cons r2 rn =>
        cases rn
        cases r
        cases r2
        exact ⟨_, _, rfl, k.dat R (.int _) q⟩
  · exact q.elim
theorem ve_abs (B : Blt X.mg) (hg : Gl X "abs") (ha : VA X tw W [e] t) (hA : ArgsOk X pos e [] := by exact ⟨rfl, rfl⟩) : VE X tw W (.Call (.Name "abs" p) [e] [] pos) (dCB gAbs t) := ve_callB call_abs sim_abs hg B.abs bb_abs ha (hA := hA)
theorem ve_max2 (B : Blt X.mg) (hc : X.calm = true) (hg : Gl X "max") (ha : VA X tw W [a, b] t) (hA : ArgsOk X pos a [b] := by exact ⟨rfl, rfl⟩) : VE X tw W (.Call (.Name "max" p) [a, b] [] pos) (dCB gMax2 t) := ve_callB (call_max2 hc) sim_max2 hg B.max bb_max ha (hA := hA)
theorem ve_min2 (B : Blt X.mg) (hc : X.calm = true) (hg : Gl X "min") (ha : VA X tw W [a, b] t) (hA : ArgsOk X pos a [b] := by exact ⟨rfl, rfl⟩) : VE X tw W (.Call (.Name "min" p) [a, b] [] pos) (dCB gMin2 t) := ve_callB (call_min2 hc) sim_min2 hg B.min bb_min ha (hA := hA)
/-- list(xs), tuple(xs) -/
def gList : GC := fun xs Q => match xs with
  | [x] => (match x.any with
    | .p (.list ds) => Q (.f (.p (.list ds)))
    | .p (.tuple ds) => Q (.f (.p (.list ds)))
    | _ => False)
  | _ => False
def gTuple : GC := fun xs Q => match xs with
  | [x] => (match x.any with
    | .p (.list ds) => Q (.c (.p (.tuple ds)))
    | .p (.tuple ds) => Q (.c (.p (.tuple ds)))
    | _ => False)
  | _ => False
theorem sim_list {K : PySem.W.Frag} : SimC (fun xs H Q => ∃ p ys, xs = [.ref p] ∧ (SqL K H p ys ∨ SqT K H p ys) ∧ ∀ l, H l = none → Q (.ref l) (upd H l (.lst ys))) gList := fun F own Γ σ H vs xs Qd Q R rs q k => by
  unfold gList at q
  split at q
  · cases rs with
    | cons r rn =>
      cases rn
      split at q
      · rename_i ds ex
        obtain ⟨aa, ws, rfl, ha, hd⟩ := r.lst ex
        exact ⟨aa, ws, rfl, .inl (.of ha), fun l nl => k _ _ _ (R.new nl) (ext_new nl) (R.newL nl hd) q⟩
      · rename_i ds ex
        obtain ⟨aa, o, ws, rfl, ha, ho, hd⟩ := r.tup ex
        exact ⟨aa, ws, rfl, .inr (sqT_frz (of_hide ha).1), fun l nl => k _ _ _ (R.new nl) (ext_new nl) (R.newL nl hd) q⟩
      · exact q.elim
  · exact q.elim
theorem call_tupF : CallR X (.type "tuple") (fun xs H Q => ∃ p ys, xs = [.ref p] ∧ ((SqL X.K H p ys ∧ ∀ l (o : Obj), H l = none → o.dict = none → Q (.ref l) (upd H l (.frz o (.tup ys)))) ∨ (SqT X.K H p ys ∧ Q (.ref p) H))) := by
  intro pins s σ H xs us Q I r h
  obtain ⟨p, ys, rfl, h⟩ := h
  obtain ⟨u, rfl, rx⟩ := vals1 r
  cases rx
  rcases h with ⟨hq, q⟩ | ⟨hq, q⟩
  · obtain ⟨its, r', pl, hz⟩ := I.list hq
    have hlen := r'.length
    refine call_tuple_list pl.isList (fun h' kp => ?_) (by simp only [List.size_toArray] <;> omega)
    have I1 : Inv X pins σ H { s with heap := h' } := I.kept (t' := s.toks) kp
    exact tup_laid I1 r' hz q
  · obtain ⟨its, r', pl, hz⟩ := I.tuple hq
    exact call_tuple_same pl ⟨.ref p, H, I, rfl, q⟩
theorem sim_tuple {K : PySem.W.Frag} : SimC (fun xs H Q => ∃ p ys, xs = [.ref p] ∧ ((SqL K H p ys ∧ ∀ l (o : Obj), H l = none → o.dict = none → Q (.ref l) (upd H l (.frz o (.tup ys)))) ∨ (SqT K H p ys ∧ Q (.ref p) H))) gTuple := fun F own Γ σ H vs xs Qd Q R rs q k => by
  unfold gTuple at q
  split at q
  · cases rs with
    | cons r rn =>
      cases rn
      split at q
      · rename_i ds ex
        obtain ⟨aa, ws, rfl, ha, hd⟩ := r.lst ex
        exact ⟨aa, ws, rfl, .inl ⟨.of ha, fun l o nl ho => k _ _ _ (R.new nl) (ext_new nl) (R.newT nl ho hd) q⟩⟩
      · rename_i ds ex
        obtain ⟨aa, o, ws, rfl, ha, ho, hd⟩ := r.tup ex
        exact ⟨aa, ws, rfl, .inr ⟨sqT_frz (of_hide ha).1, k.dat R (Dq.tup ha ho hd) q⟩⟩
      · exact q.elim
  · exact q.elim
theorem ve_list (B : Blt X.mg) (hg : Gl X "list") (ha : VA X tw W [e] t) (hA : ArgsOk X pos e [] := by exact ⟨rfl, rfl⟩) : VE X tw W (.Call (.Name "list" p) [e] [] pos) (dCB gList t) := ve_callTy call_list_of sim_list hg B.list bb_list ha (hA := hA)
theorem ve_tuple (B : Blt X.mg) (hg : Gl X "tuple") (ha : VA X tw W [e] t) (hA : ArgsOk X pos e [] := by exact ⟨rfl, rfl⟩) : VE X tw W (.Call (.Name "tuple" p) [e] [] pos) (dCB gTuple t) := ve_callTy call_tupF sim_tuple hg B.tuple bb_tuple ha (hA := hA)
end
end WL

set_option maxRecDepth 100000
set_option maxHeartbeats 1000000
namespace WL
open PySem PySem.Spec PyProof.Rows L2
/-! ### statements -/
structure EndsD where
  nx : List SV → Prop
  rt : D → Prop
  bk : List SV → Prop := fun _ => False
  ct : List SV → Prop := fun _ => False
  ex : List SV → Value → Prop := fun _ _ => False
abbrev DS := EndsD → List SV → Prop
/-- what could be looked at still can -/
def Gr (F : Frm) (own : Nat → Option Addr) (H : Hp) (own' : Nat → Option Addr) (H' : Hp) : Prop := Sub (vis F own H) (vis F own' H')
structure KS (F : Frm) (own : Nat → Option Addr) (H : Hp) (W : WX) (E : EndsD) (Dd : Ends) : Prop where
  nx : ∀ own' Γ' σ' H', Rel F own' Γ' σ' H' → Gr F own H own' H' → E.nx Γ' → Dd.nx σ' H'
  rt : ∀ v d own' Γ' σ' H', Rel F own' Γ' σ' H' → Gr F own H own' H' → Rep (hide H' F.X) v d → E.rt d → Dd.rt v H'
  bk : ∀ own' Γ' σ' H', Rel F own' Γ' σ' H' → Gr F own H own' H' → E.bk Γ' → Dd.bk σ' H'
  ct : ∀ own' Γ' σ' H', Rel F own' Γ' σ' H' → Gr F own H own' H' → E.ct Γ' → Dd.ct σ' H'
  ex : ∀ c own' Γ' σ' H', Rel F own' Γ' σ' H' → Gr F own H own' H' → E.ex Γ' c → W c none σ' H'
def liftS (tw : Tw) (W : WX) (t : DS) : TS := fun Dd σ H => ∃ F own Γ E, F.tw = tw ∧ Rel F own Γ σ H ∧ t E Γ ∧ KS F own H W E Dd
abbrev VS (X : Cx) (tw : Tw) (W : WX) (s : Stmt) (t : DS) : Prop := PS X s (liftS tw W t)
abbrev VSs (X : Cx) (tw : Tw) (W : WX) (s : List Stmt) (t : DS) : Prop := PSs X s (liftS tw W t)
theorem PS.mono {X : Cx} {s : Stmt} {t t' : TS} (h : PS X s t) (m : ∀ Dd σ H, t' Dd σ H → t Dd σ H) : PS X s t' := ⟨fun pins s σ H Dd I q => h.run pins s σ H Dd I (m Dd σ H q)⟩
theorem PSs.mono {X : Cx} {s : List Stmt} {t t' : TS} (h : PSs X s t) (m : ∀ Dd σ H, t' Dd σ H → t Dd σ H) : PSs X s t' := ⟨fun pins s σ H Dd I q => h.run pins s σ H Dd I (m Dd σ H q)⟩
theorem Gr.refl {F : Frm} {own : Nat → Option Addr} {H : Hp} : Gr F own H own H := fun _ _ h => h
theorem Gr.trans {F : Frm} {o o1 o2 : Nat → Option Addr} {H H1 H2 : Hp} (a : Gr F o H o1 H1) (b : Gr F o1 H1 o2 H2) : Gr F o H o2 H2 := fun c u h => b c u (a c u h)
section
variable {F : Frm} {own own1 : Nat → Option Addr} {Γ : List SV} {σ : L2.St} {H H1 : Hp} {W : WX} {E : EndsD} {Dd : Ends}
theorem KS.gr (k : KS F own H W E Dd) (g : Gr F own H own1 H1) : KS F own1 H1 W E Dd where
  nx := fun o Γ' σ' H' R g' q => k.nx o Γ' σ' H' R (g.trans g') q
  rt := fun v d o Γ' σ' H' R g' r q => k.rt v d o Γ' σ' H' R (g.trans g') r q
  bk := fun o Γ' σ' H' R g' q => k.bk o Γ' σ' H' R (g.trans g') q
  ct := fun o Γ' σ' H' R g' q => k.ct o Γ' σ' H' R (g.trans g') q
  ex := fun c o Γ' σ' H' R g' q => k.ex c o Γ' σ' H' R (g.trans g') q
theorem KS.kx (R : Rel F own Γ σ H) (k : KS F own H W E Dd) : KonX F own Γ σ H (E.ex Γ) W := fun c H' R' e q => k.ex c own Γ σ H' R' (e.vis R.ok) q
theorem Rel.gr (R : Rel F own Γ σ H) (e : Ext F H H1) : Gr F own H own H1 := e.vis R.ok
/-- a value behind a return -/
theorem RepAV.out (R : Rel F own Γ σ H) : ∀ {v : V} {x : AV}, RepAV F own H v x → Rep (hide H F.X) v x.any
  | v, .c x, h => Rep.sub (fun a o e => by
      obtain ⟨e1, e2⟩ := of_hide e
      exact hide_of e1 fun z => e2 (.inl z)) h
  | _, .b x, ⟨i, p, h1, rfl, h3⟩ => RepO.rep (fun o e => hide_of e (R.fr i p h1).2.2.1) (h3.sub (fun a o e => by
      obtain ⟨e1, e2⟩ := of_hide e
      exact hide_of e1 fun z => e2 (.inl z)) fun o e => e)
  | v, .f x, h => Rep.sub (fun a o e => by
      obtain ⟨e1, e2⟩ := of_hide e
      exact hide_of e1 fun z => e2 (.inl z)) (RepAV.clean h)
end
section
variable {X : Cx} {tw : Tw} {W : WX} {a b c e : Expr} {da db dc : DE} {ta tb : DT} {pos p : Pos} {es : List Expr} {st : Stmt} {sts sts' : List Stmt} {t u : DS}
def dNext : DS := fun E Γ => E.nx Γ
def dSeq (t u : DS) : DS := fun E Γ => t { E with nx := u E } Γ
theorem vss_nil : VSs X tw W [] dNext := PSs.mono pss_nil fun Dd σ H ⟨F, own, Γ, E, ht, R, h, k⟩ => k.nx own Γ σ H R .refl h
theorem vss_cons (h1 : VS X tw W st t) (h2 : VSs X tw W sts u) : VSs X tw W (st :: sts) (dSeq t u) := PSs.mono (pss_cons h1 h2) fun Dd σ H ⟨F, own, Γ, E, ht, R, h, k⟩ =>
  ⟨F, own, Γ, { E with nx := u E }, ht, R, h, fun o Γ' σ' H' R' g q => ⟨F, o, Γ', E, ht, R', q, k.gr g⟩, k.rt, k.bk, k.ct, k.ex⟩
theorem vss_one (h1 : VS X tw W st t) : VSs X tw W [st] t := pss_one h1
def dBreak : DS := fun E Γ => E.bk Γ
def dCont : DS := fun E Γ => E.ct Γ
theorem vs_pass : VS X tw W (.Pass pos) dNext := PS.mono ps_pass fun Dd σ H ⟨F, own, Γ, E, ht, R, h, k⟩ => k.nx own Γ σ H R .refl h
theorem vs_break : VS X tw W (.Break pos) dBreak := PS.mono ps_break fun Dd σ H ⟨F, own, Γ, E, ht, R, h, k⟩ => k.bk own Γ σ H R .refl h
theorem vs_continue : VS X tw W (.Continue pos) dCont := PS.mono ps_continue fun Dd σ H ⟨F, own, Γ, E, ht, R, h, k⟩ => k.ct own Γ σ H R .refl h
def dNever : DS := fun _ _ => False
theorem vs_never : VS X tw W st dNever := PS.mono ps_never fun Dd σ H ⟨F, own, Γ, E, ht, R, h, k⟩ => h.elim
theorem vs_doc {x j pos'} : VS X tw W (.Expr (.Constant (.str x) j pos) pos') dNext := PS.mono ps_doc fun Dd σ H ⟨F, own, Γ, E, ht, R, h, k⟩ => k.nx own Γ σ H R .refl h
/-- e as a statement -/
def dDrop (te : DE) : DS := fun E Γ => te Γ (fun _ => E.nx Γ) (E.ex Γ)
theorem vs_expr (he : VE X tw W e da) (hs : swapsWith e none pos.line X.env = pure false := by rfl) : VS X tw W (.Expr e pos) (dDrop da) := PS.mono (ps_expr he hs) fun Dd σ H ⟨F, own, Γ, E, ht, R, h, k⟩ =>
  lift_mk ht R (KS.kx R k) h fun v H1 x R1 e1 r1 q1 => k.nx own Γ σ H1 R1 (R.gr e1) q1
def dRet (te : DE) : DS := fun E Γ => te Γ (fun x => E.rt x.any) (E.ex Γ)
theorem vs_ret (he : VE X tw W e da) : VS X tw W (.Return (some e) pos) (dRet da) := PS.mono (ps_ret he) fun Dd σ H ⟨F, own, Γ, E, ht, R, h, k⟩ =>
  lift_mk ht R (KS.kx R k) h fun v H1 x R1 e1 r1 q1 => k.rt v x.any own Γ σ H1 R1 (R.gr e1) (r1.out R1) q1
def dRetN : DS := fun E _ => E.rt dN
theorem vs_retN : VS X tw W (.Return none pos) dRetN := PS.mono ps_retN fun Dd σ H ⟨F, own, Γ, E, ht, R, h, k⟩ => k.rt .non dN own Γ σ H R .refl Dq.non h
def dIf (t : DT) (u v : DS) : DS := fun E Γ => t Γ (fun k => if k = true then u E Γ else v E Γ) (E.ex Γ)
theorem vs_if {v : DS} (hc : VT X tw W c ta) (ha : VSs X tw W sts u) (hb : VSs X tw W sts' v) : VS X tw W (.If c sts sts' pos) (dIf ta u v) := PS.mono (ps_if hc ha hb) fun Dd σ H ⟨F, own, Γ, E, ht, R, h, k⟩ =>
  liftT_mk ht R (KS.kx R k) h fun b H1 R1 e1 q1 => by
    cases b with
    | true =>
      rw [if_pos rfl] at q1 ⊢
      exact ⟨F, own, Γ, E, ht, R1, q1, k.gr (R.gr e1)⟩
    | false =>
      rw [if_neg (by decide)] at q1 ⊢
      exact ⟨F, own, Γ, E, ht, R1, q1, k.gr (R.gr e1)⟩
end
/-! ### storing -/
section
variable {F : Frm} {own : Nat → Option Addr} {Γ : List SV} {σ : L2.St} {H : Hp}
/-- the slot i let go -/
def offO (own : Nat → Option Addr) (i : Nat) : Nat → Option Addr := fun j => if j = i then none else own j
def onO (own : Nat → Option Addr) (i : Nat) (p : Addr) : Nat → Option Addr := fun j => if j = i then some p else own j
theorem off_sub : Sub (vis F own H) (vis F (offO own i) H) := fun a o e => by
  obtain ⟨e1, e2⟩ := of_hide e
  refine hide_of e1 fun z => e2 ?_
  rcases z with z | ⟨j, z⟩
  · exact .inl z
  · unfold offO at z
    split at z
    · cases z
    · exact .inr ⟨j, z⟩
theorem SlOk.sub {I I' : Hp} (s : Sub I I') {o : Option Addr} {v : Option (Option V)} : ∀ {g : SV}, SlOk I H o v g → SlOk I' H o v g
  | .un, h => h
  | .d _, ⟨h1, v, h2, h3⟩ => ⟨h1, v, h2, h3.sub s⟩
  | .o _, ⟨p, h1, h2, h3⟩ => ⟨p, h1, h2, h3.sub s fun _ e => e⟩
/-- a slot is stored -/
theorem Rel.set (R : Rel F own Γ σ H) {i : Nat} {v : V} {x : D} (hi : i < Γ.length) (r : Rep (vis F own H) v x) : Rel F (offO own i) (Γ.set i (.d x)) (σ.set i (some v)) H where
  ok := R.ok
  ext := R.ext
  bas := R.bas
  ti := R.ti
  x := R.x
  len := by rw [List.length_set, List.length_set]; exact R.len
  sl := fun j g hj => by
    by_cases e : j = i
    · subst e
      rw [List.getElem?_set_self hi] at hj
      cases hj
      rw [List.getElem?_set_self (by rw [← R.len]; exact hi)]
      exact ⟨by unfold offO; rw [if_pos rfl], v, rfl, r.sub off_sub⟩
    · rw [List.getElem?_set_ne (Ne.symm e)] at hj
      rw [List.getElem?_set_ne (Ne.symm e)]
      have q := R.sl j g hj
      have eo : offO own i j = own j := by unfold offO; rw [if_neg e]
      rw [eo]
      exact q.sub off_sub
  inj := fun j k p h1 h2 => by
    unfold offO at h1 h2
    split at h1
    · cases h1
    · split at h2
      · cases h2
      · exact R.inj j k p h1 h2
  fr := fun j p h => by
    unfold offO at h
    split at h
    · cases h
    · obtain ⟨h1, h2⟩ := R.fr j p h
      exact ⟨by rw [List.length_set]; exact h1, h2⟩
theorem Rel.unset (R : Rel F own Γ σ H) {i : Nat} : Rel F (offO own i) (Γ.set i .un) σ H where
  ok := R.ok
  ext := R.ext
  bas := R.bas
  ti := R.ti
  x := R.x
  len := by rw [List.length_set]; exact R.len
  sl := fun j g hj => by
    by_cases e : j = i
    · subst e
      by_cases hi : j < Γ.length
      · rw [List.getElem?_set_self hi] at hj
        cases hj
        show offO own j j = none
        unfold offO
        rw [if_pos rfl]
      · rw [List.getElem?_eq_none (by rw [List.length_set]; omega)] at hj
        cases hj
    · rw [List.getElem?_set_ne (Ne.symm e)] at hj
      have q := R.sl j g hj
      have eo : offO own i j = own j := by unfold offO; rw [if_neg e]
      rw [eo]
      exact q.sub off_sub
  inj := fun j k p h1 h2 => by
    unfold offO at h1 h2
    split at h1
    · cases h1
    · split at h2
      · cases h2
      · exact R.inj j k p h1 h2
  fr := fun j p h => by
    unfold offO at h
    split at h
    · cases h
    · obtain ⟨h1, h2⟩ := R.fr j p h
      exact ⟨by rw [List.length_set]; exact h1, h2⟩
/-- a new thing becomes a slot's own -/
theorem on_sub {i : Nat} {p : Addr} : Sub (hide H fun a => XX F own a ∨ a = p) (vis F (onO own i p) H) := fun a o e => by
  obtain ⟨e1, e2⟩ := of_hide e
  refine hide_of e1 fun z => e2 ?_
  rcases z with z | ⟨j, z⟩
  · exact .inl (.inl z)
  · unfold onO at z
    split at z
    · cases z
      exact .inr rfl
    · exact .inl (.inr ⟨j, z⟩)
/-- every other slot's data stays clear of the new thing at p, laid behind H0 -/
theorem Rel.take (R : Rel F own Γ σ H) {i : Nat} {p : Addr} {x : D} (hi : i < Γ.length) (h0 : F.H0 p = none) (n : ¬ XX F own p) (r : RepO (hide H fun a => XX F own a ∨ a = p) H p x)
    (cl : ∀ j g, Γ[j]? = some g → SlOk (hide H fun a => XX F own a ∨ a = p) H (own j) σ[j]? g) : Rel F (onO own i p) (Γ.set i (.o x)) (σ.set i (some (.ref p))) H where
  ok := R.ok
  ext := R.ext
  bas := R.bas
  ti := R.ti
  x := R.x
  len := by rw [List.length_set, List.length_set]; exact R.len
  sl := fun j g hj => by
    by_cases e : j = i
    · subst e
      rw [List.getElem?_set_self hi] at hj
      cases hj
      rw [List.getElem?_set_self (by rw [← R.len]; exact hi)]
      exact ⟨p, by unfold onO; rw [if_pos rfl], rfl, r.sub on_sub fun _ e => e⟩
    · rw [List.getElem?_set_ne (Ne.symm e)] at hj
      rw [List.getElem?_set_ne (Ne.symm e)]
      have q := cl j g hj
      have eo : onO own i p j = own j := by unfold onO; rw [if_neg e]
      rw [eo]
      exact q.sub on_sub
  inj := fun j k q h1 h2 => by
    unfold onO at h1 h2
    split at h1 <;> split at h2
    · rename_i e1 e2
      rw [e1, e2]
    · cases h1
      exact absurd (.inr ⟨_, h2⟩) n
    · cases h2
      exact absurd (.inr ⟨_, h1⟩) n
    · exact R.inj j k q h1 h2
  fr := fun j q h => by
    unfold onO at h
    split at h
    · rename_i e
      cases h
      subst e
      obtain ⟨o, h1, h2⟩ := r.at
      exact ⟨by rw [List.length_set]; exact hi, h0, fun z => n (.inl z), o, h1, h2⟩
    · obtain ⟨h1, h2⟩ := R.fr j q h
      exact ⟨by rw [List.length_set]; exact h1, h2⟩
end
end WL

set_option maxRecDepth 100000
set_option maxHeartbeats 1000000
namespace WL
open PySem PySem.Spec PyProof.Rows L2
section
variable {F : Frm} {own : Nat → Option Addr} {Γ : List SV} {σ : L2.St} {H H1 : Hp}
theorem offO_none {i : Nat} (h : own i = none) : offO own i = own := by
  funext j
  unfold offO
  split
  · rename_i e
    rw [e, h]
  · rfl
theorem Rel.none_out (R : Rel F own Γ σ H) {i : Nat} (h : ¬ i < Γ.length) : own i = none := by
  cases e : own i with
  | none => rfl
  | some p => exact absurd (R.fr i p e).1 h
/-- a slot is stored, whatever its place -/
theorem Rel.set' (R : Rel F own Γ σ H) {i : Nat} {v : V} {x : D} (r : Rep (vis F own H) v x) : Rel F (offO own i) (Γ.set i (.d x)) (σ.set i (some v)) H := by
  by_cases hi : i < Γ.length
  · exact R.set hi r
  · rw [offO_none (R.none_out hi), List.set_eq_of_length_le (by omega), List.set_eq_of_length_le (by rw [← R.len]; omega)]
    exact R
theorem Rel.un (R : Rel F own Γ σ H) {b : ∀ a o, H a = some o → ∃ o', H a = some o'} : Rel { F with B := H } own Γ σ H := R.rebase b
/-- at a statement's start: new things are new to it -/
theorem Rel.here (R : Rel F own Γ σ H) : Rel { F with B := H } own Γ σ H := R.rebase fun a o h => ⟨o, h⟩
theorem Rel.back (R : Rel F own Γ σ H) (e : Ext F H H1) (R1 : Rel { F with B := H } own Γ σ H1) : Rel F own Γ σ H1 := R1.unbase fun a o h => by
  obtain ⟨o', q⟩ := R.bas a o h
  exact R1.bas a o' q
/-- the own thing of slot i is changed -/
theorem Rel.write (R : Rel F own Γ σ H) {i : Nat} {p : Addr} {o : HO} {x : D} (h : own i = some p) (ho : notTup o) (r : RepO (vis F own H) (upd H p o) p x) : Rel F own (Γ.set i (.o x)) σ (upd H p o) := by
  obtain ⟨hi, h0, hx, o0, hp, hn⟩ := R.fr i p h
  have np : ∀ a, ¬ XX F own a → a ≠ p := fun a n e => n (.inr ⟨i, by rw [e]; exact h⟩)
  have s1 : Sub (vis F own H) (vis F own (upd H p o)) := fun a u e => by
    obtain ⟨e1, e2⟩ := of_hide e
    exact hide_of (by rw [upd_ne (np a e2)]; exact e1) e2
  have nT : ∀ a, F.tw.T a → a ≠ p := fun a t e => hx (by rw [← e]; exact R.ok.tx a t)
  refine ⟨R.ok, fun a u e n => ?_, fun a u e => ?_, R.ok.st H _ (fun a t => upd_ne (nT a t)) (fun a q z => by rw [upd_ne (fun e => hn.code (Option.some.inj ((hp.symm.trans (by rw [← e])).trans z)))]; exact z) R.ti, fun a e => ?_, by rw [List.length_set]; exact R.len, fun j g hj => ?_, R.inj, fun j q e => ?_⟩
  · rw [upd_ne (fun z => by rw [z, h0] at e; cases e)]
    exact R.ext a u e n
  · obtain ⟨u', q⟩ := R.bas a u e
    by_cases z : a = p
    · rw [z]
      exact ⟨o, upd_same⟩
    · exact ⟨u', by rw [upd_ne z]; exact q⟩
  · have z : a ≠ p := fun z => hx (by rw [← z]; exact e)
    rw [upd_ne z]
    exact R.x a e
  · by_cases e : j = i
    · subst e
      rw [List.getElem?_set_self hi] at hj
      cases hj
      have q := R.sl j (Γ[j]'hi) (by rw [List.getElem?_eq_getElem hi])
      refine ⟨p, h, ?_, r.sub s1 fun _ e => e⟩
      cases eg : Γ[j]'hi with
      | un =>
        rw [eg] at q
        have q : own j = none := q
        rw [h] at q
        cases q
      | d y =>
        rw [eg] at q
        rw [h] at q
        cases q.1
      | o y =>
        rw [eg] at q
        obtain ⟨p', h1, h2, h3⟩ := q
        rw [h] at h1
        cases h1
        exact h2
    · rw [List.getElem?_set_ne (Ne.symm e)] at hj
      have q := R.sl j g hj
      cases g with
      | un => exact q
      | d y =>
        obtain ⟨h1, v, h2, h3⟩ := q
        exact ⟨h1, v, h2, h3.sub s1⟩
      | o y =>
        obtain ⟨p', h1, h2, h3⟩ := q
        have ne : p' ≠ p := fun z => e (R.inj j i p' h1 (by rw [z]; exact h))
        exact ⟨p', h1, h2, h3.sub s1 fun u hu => by rw [upd_ne ne]; exact hu⟩
  · obtain ⟨h1, h2, h3, u, h4, h5⟩ := R.fr j q e
    refine ⟨by rw [List.length_set]; exact h1, h2, h3, ?_⟩
    by_cases z : q = p
    · rw [z]
      exact ⟨o, upd_same, ho⟩
    · exact ⟨u, by rw [upd_ne z]; exact h4, h5⟩
theorem Rel.grw (R : Rel F own Γ σ H) {i : Nat} {p : Addr} {o : HO} (h : own i = some p) : Gr F own H own (upd H p o) := fun a u e => by
  obtain ⟨e1, e2⟩ := of_hide e
  exact hide_of (by rw [upd_ne (fun z => e2 (.inr ⟨i, by rw [z]; exact h⟩))]; exact e1) e2
/-- what slot i owns -/
theorem Rel.owns (R : Rel F own Γ σ H) {i : Nat} {x : D} (h : Γ[i]? = some (.o x)) : ∃ p, own i = some p ∧ σ[i]? = some (some (.ref p)) ∧ RepO (vis F own H) H p x := R.sl i _ h
end
section
variable {X : Cx} {tw : Tw} {W : WX} {a b c e : Expr} {da db dc : DE} {ta tb : DT} {pos p : Pos} {es : List Expr} {st : Stmt} {sts sts' : List Stmt} {t u : DS}
/-- name = e -/
def dSet (i : Nat) (te : DE) : DS := fun E Γ => te Γ (fun x => x.val fun d => E.nx (Γ.set i (.d d))) (E.ex Γ)
theorem set_sim {i : Nat} {te : DE} {Dd : Ends} {σ : L2.St} {H : Hp} (h : liftS tw W (dSet i te) Dd σ H) : tAsg (lift tw W te) (gName i) Dd σ H := by
  obtain ⟨F, own, Γ, E, ht, R, h, k⟩ := h
  refine lift_mk ht R (KS.kx R k) h fun v H1 x R1 e1 r1 q1 => ?_
  obtain ⟨d, _, q2, r2⟩ := AV.val_rep r1 q1
  exact k.nx _ _ _ _ (R1.set' r2) (Gr.trans (R.gr e1) off_sub) q2
theorem vs_set {i : Nat} {x : Str} {pos' : Pos} (hN : X.N.Nodup) (hi : X.N[i]? = some x) (hx : Loc X.env.scope x) (he : VE X tw W e da) (hs : swapsWith e (some (.Name x pos')) pos.line X.env = pure false := by rfl)
    (hf : X.fn x = true ∨ X.env.scope.names.lookup x = some .local := by first | exact .inl rfl | exact .inr rfl | assumption) : VS X tw W (.Assign [.Name x pos'] e pos) (dSet i da) :=
  PS.mono (ps_set hN hi hx he hs hf) fun _ _ _ => set_sim
/-- name = a new list or dict, changed later by this def -/
def dOwn (i : Nat) (te : DE) : DS := fun E Γ => te Γ (fun x => match x with
  | .f d => E.nx (Γ.set i (.o d))
  | _ => False) (E.ex Γ)
theorem own_sim {i : Nat} {te : DE} {Dd : Ends} {σ : L2.St} {H : Hp} (h : liftS tw W (dOwn i te) Dd σ H) : tAsg (lift tw W te) (gName i) Dd σ H := by
  obtain ⟨F, own, Γ, E, ht, R, h, k⟩ := h
  refine lift_mk (F := { F with B := H }) ht R.here (fun c H' R' e q => k.ex c own Γ σ H' (R.back (F := F) e R') (e.vis R.ok) q) h fun v H1 x R1 e1 r1 q1 => ?_
  have R2 : Rel F own Γ σ H1 := R.back e1 R1
  split at q1
  · rename_i d
    obtain ⟨p, rfl, hb, hx, hO⟩ := r1
    have hb : H p = none := hb
    by_cases hi : i < Γ.length
    · have sb : Sub (vis F own H) (hide H1 fun a => XX F own a ∨ a = p) := fun a o e => by
        obtain ⟨e3, e4⟩ := of_hide e
        refine hide_of (e1 a o e3 fun t => e4 (.inl (R.ok.tx a t))) fun z => ?_
        rcases z with z | z
        · exact e4 z
        · rw [z, hb] at e3
          cases e3
      have R3 := R2.take hi (R.freeT hb) hx hO fun j g hj => by
        have q := R.sl j g hj
        cases g with
        | un => exact q
        | d y =>
          obtain ⟨h1, v, h2, h3⟩ := q
          exact ⟨h1, v, h2, h3.sub sb⟩
        | o y =>
          obtain ⟨p', h1, h2, h3⟩ := q
          exact ⟨p', h1, h2, h3.sub sb fun u hu => e1 p' u hu (R.notT h1)⟩
      refine k.nx _ _ _ _ R3 (fun a o e => ?_) q1
      exact on_sub a o (sb a o e)
    · have e2 : Γ.set i (.o d) = Γ := List.set_eq_of_length_le (by omega)
      rw [e2] at q1
      refine k.nx own Γ _ H1 ?_ (R.gr e1) q1
      rw [List.set_eq_of_length_le (by rw [← R.len]; omega)]
      exact R2
  · exact q1.elim
theorem vs_own {i : Nat} {x : Str} {pos' : Pos} (hN : X.N.Nodup) (hi : X.N[i]? = some x) (hx : Loc X.env.scope x) (he : VE X tw W e da) (hs : swapsWith e (some (.Name x pos')) pos.line X.env = pure false := by rfl)
    (hf : X.fn x = true ∨ X.env.scope.names.lookup x = some .local := by first | exact .inl rfl | exact .inr rfl | assumption) : VS X tw W (.Assign [.Name x pos'] e pos) (dOwn i da) :=
  PS.mono (ps_set hN hi hx he hs hf) fun _ _ _ => own_sim
/-- name = other, the other's own thing let go -/
def dMove (i j : Nat) : DS := fun E Γ => i ≠ j ∧ match Γ[j]? with
  | some (.o d) => E.nx ((Γ.set j .un).set i (.d d))
  | _ => False
theorem move_sim {i j : Nat} {Dd : Ends} {σ : L2.St} {H : Hp} (h : liftS tw W (dMove i j) Dd σ H) : tAsg (tVar j) (gName i) Dd σ H := by
  obtain ⟨F, own, Γ, E, ht, R, ⟨hij, h⟩, k⟩ := h
  split at h
  · rename_i d e
    obtain ⟨p, h1, h2, h3⟩ := R.owns e
    refine ⟨.ref p, h2, ?_⟩
    have R1 := R.unset (i := j)
    have hp : vis F (offO own j) H p = H p := by
      have n : ¬ XX F (offO own j) p := fun z => by
        rcases z with z | ⟨m, z⟩
        · exact (R.fr j p h1).2.2.1 z
        · unfold offO at z
          split at z
          · cases z
          · rename_i ne
            exact ne (R.inj m j p z h1)
      obtain ⟨_, _, _, o, q, _⟩ := R.fr j p h1
      rw [q]
      exact hide_of q n
    exact k.nx _ _ _ _ (R1.set' (RepO.rep (fun o q => by rw [hp]; exact q) (h3.sub off_sub fun _ e => e))) (Gr.trans (off_sub (i := j)) off_sub) h
  · exact h.elim
theorem vs_move {i j : Nat} {x y : Str} {pos' : Pos} (hN : X.N.Nodup) (hi : X.N[i]? = some x) (hx : Loc X.env.scope x) (hj : X.N[j]? = some y) (hv : Vis X.env.scope y := by first | exact Or.inl rfl | exact Or.inr (Or.inl rfl) | exact Or.inr (Or.inr rfl)) (hd : (y == ("__debug__" : Str)) = false := by decide) (hcd : (y == ("__classdict__" : Str)) = false := by decide)
    (hs : swapsWith (.Name y p) (some (.Name x pos')) pos.line X.env = pure false := by rfl) (hf : X.fn x = true ∨ X.env.scope.names.lookup x = some .local := by first | exact .inl rfl | exact .inr rfl | assumption) : VS X tw W (.Assign [.Name x pos'] (.Name y p) pos) (dMove i j) :=
  PS.mono (ps_set hN hi hx (pe_var hj hv hd hcd) hs hf) fun _ _ _ => move_sim
/-! ### own lists, own dicts -/
theorem tyL {K : PySem.W.Frag} {H : Hp} {p : Addr} {vs : List V} (h : H p = some (.lst vs)) : tyV K "list" (.ref p) H := Or.inl ⟨rfl, _, Or.inl (Or.inl h)⟩
def dAppend (i : Nat) (te : DE) : DS := fun E Γ => match Γ[i]? with
  | some (.o (.p (.list xs))) => xs.length < 100000 ∧ te Γ (fun y => y.dat fun d => E.nx (Γ.set i (.o (.p (.list (xs ++ [d])))))) (E.ex Γ)
  | _ => False
theorem append_sim {K : PySem.W.Frag} {i : Nat} {te : DE} {Dd : Ends} {σ : L2.St} {H : Hp} (h : liftS tw W (dAppend i te) Dd σ H) : tDrop (tBM K "list" rAppend (tVar i) (tCons (lift tw W te) tNil)) Dd σ H := by
  obtain ⟨F, own, Γ, E, ht, R, h, k⟩ := h
  unfold dAppend at h
  split at h
  · rename_i xs e
    obtain ⟨hl, h⟩ := h
    obtain ⟨p, h1, h2, vs, h3, h4⟩ := R.owns e
    refine ⟨.ref p, h2, tyL h3, ?_⟩
    refine lift_mk ht R (KS.kx R k) h fun v H1 x R1 e1 r1 q1 => ?_
    obtain ⟨d, q2, r2, _⟩ := AV.dat_rep r1 q1
    have h3' := e1 p _ h3 (R.notT h1)
    refine ⟨p, vs, v, rfl, rfl, h3', by rw [h4.length, sizeLine_eq]; omega, ?_⟩
    refine k.nx _ _ _ _ (R1.write (x := .p (.list (xs ++ [d]))) h1 trivial ⟨vs ++ [v], upd_same, (dqA_sub (e1.vis R.ok) _ _ h4).append (.cons r2 .nil)⟩) (Gr.trans (R.gr e1) (R1.grw h1)) q2
  · exact h.elim
theorem vs_append {i : Nat} {x : Str} {px apos cpos : Pos} (hx : PE X (.Name x px) (tVar i)) (he : VE X tw W e da) (hline : (apos.endLine == cpos.line) = true := by rfl)
    (hfew : ((backTo cpos (starEach [e] X.env)).all (fun x => !x.1) && (backToKw cpos (keywordEach [] X.env)).all (fun x => x.1.isSome) && decide ([e].length + ([] : List Keyword).length + (if ([] : List Keyword).isEmpty then 0 else 1) < 30)) = true := by rfl)
    (hA : starEach [e] X.env = (false, eval e X.env) :: starEach [] X.env := by rfl) (hs : swapsWith (.Call (.Attribute (.Name x px) "append" apos) [e] [] cpos) none pos.line X.env = pure false := by rfl) :
    VS X tw W (.Expr (.Call (.Attribute (.Name x px) "append" apos) [e] [] cpos) pos) (dAppend i da) :=
  PS.mono (ps_expr (pe_bm PySem.F.plainAttrs_list PySem.F.slot_list_append PySem.F.type_list_append mt_append hx (pa_cons he pa_nil hA) rfl hfew hline hA rfl) hs) fun _ _ _ => append_sim
def dExtend (i : Nat) (te : DE) : DS := fun E Γ => match Γ[i]? with
  | some (.o (.p (.list xs))) => te Γ (fun y => match y.any with
    | .p (.list zs) => xs.length + zs.length < 100000 ∧ E.nx (Γ.set i (.o (.p (.list (xs ++ zs)))))
    | _ => False) (E.ex Γ)
  | _ => False
theorem extend_sim {K : PySem.W.Frag} {i : Nat} {te : DE} {Dd : Ends} {σ : L2.St} {H : Hp} (h : liftS tw W (dExtend i te) Dd σ H) : tDrop (tBM K "list" rExtend (tVar i) (tCons (lift tw W te) tNil)) Dd σ H := by
  obtain ⟨F, own, Γ, E, ht, R, h, k⟩ := h
  unfold dExtend at h
  split at h
  · rename_i xs e
    obtain ⟨p, h1, h2, vs, h3, h4⟩ := R.owns e
    refine ⟨.ref p, h2, tyL h3, ?_⟩
    refine lift_mk ht R (KS.kx R k) h fun v H1 x R1 e1 r1 q1 => ?_
    split at q1
    · rename_i zs ez
      obtain ⟨bb, ws, rfl, hb, hd⟩ := r1.lst ez
      have h3' := e1 p _ h3 (R.notT h1)
      refine ⟨p, bb, vs, ws, rfl, rfl, h3', hb, by rw [h4.length, hd.length, sizeLine_eq]; omega, ?_⟩
      refine k.nx _ _ _ _ (R1.write (x := .p (.list (xs ++ zs))) h1 trivial ⟨vs ++ ws, upd_same, (dqA_sub (e1.vis R.ok) _ _ h4).append hd⟩) (Gr.trans (R.gr e1) (R1.grw h1)) q1.2
    · exact q1.elim
  · exact h.elim
theorem vs_extend {i : Nat} {x : Str} {px apos cpos : Pos} (hx : PE X (.Name x px) (tVar i)) (he : VE X tw W e da) (hline : (apos.endLine == cpos.line) = true := by rfl)
    (hfew : ((backTo cpos (starEach [e] X.env)).all (fun x => !x.1) && (backToKw cpos (keywordEach [] X.env)).all (fun x => x.1.isSome) && decide ([e].length + ([] : List Keyword).length + (if ([] : List Keyword).isEmpty then 0 else 1) < 30)) = true := by rfl)
    (hA : starEach [e] X.env = (false, eval e X.env) :: starEach [] X.env := by rfl) (hs : swapsWith (.Call (.Attribute (.Name x px) "extend" apos) [e] [] cpos) none pos.line X.env = pure false := by rfl) :
    VS X tw W (.Expr (.Call (.Attribute (.Name x px) "extend" apos) [e] [] cpos) pos) (dExtend i da) :=
  PS.mono (ps_expr (pe_bm PySem.F.plainAttrs_list PySem.F.slot_list_extend PySem.F.type_list_extend mt_extend hx (pa_cons he pa_nil hA) rfl hfew hline hA rfl) hs) fun _ _ _ => extend_sim
theorem HT0 (n : Nat) : seqIndex? 0 (n + 1) = some 0 := by
  unfold seqIndex?
  simp
/-- here = waiting.pop(0) -/
def dPop0 (j i : Nat) : DS := fun E Γ => i ≠ j ∧ match Γ[i]? with
  | some (.o (.p (.list (d :: ds)))) => E.nx ((Γ.set i (.o (.p (.list ds)))).set j (.d (.p d)))
  | _ => False
theorem pop0_sim {K : PySem.W.Frag} {i j : Nat} {Dd : Ends} {σ : L2.St} {H : Hp} (h : liftS tw W (dPop0 j i) Dd σ H) : tAsg (tBM K "list" rPopAt (tVar i) (tCons (tC (.int 0)) tNil)) (gName j) Dd σ H := by
  obtain ⟨F, own, Γ, E, ht, R, ⟨hij, h⟩, k⟩ := h
  split at h
  · rename_i d ds e
    obtain ⟨p, h1, h2, vs, h3, h4⟩ := R.owns e
    obtain ⟨v, ws, rfl, hv, hw⟩ := h4.cons_inv
    refine ⟨.ref p, h2, tyL h3, p, v :: ws, 0, 0, v, rfl, rfl, h3, by decide, by decide, HT0 ws.length, rfl, ?_⟩
    · have R1 := R.write h1 (o := .lst ws) (x := .p (.list ds)) trivial ⟨ws, upd_same, hw⟩
      exact k.nx _ _ _ _ (R1.set' (v := v) (x := .p d) (dq_sub (R.grw h1) _ _ hv)) (Gr.trans (R.grw h1) off_sub) h
  · exact h.elim
/-- here = waiting.pop() -/
def dPopL (j i : Nat) : DS := fun E Γ => i ≠ j ∧ match Γ[i]? with
  | some (.o (.p (.list ds))) => (match ds.getLast? with
    | some d => E.nx ((Γ.set i (.o (.p (.list ds.dropLast)))).set j (.d (.p d)))
    | none => False)
  | _ => False
theorem popL_sim {K : PySem.W.Frag} {i j : Nat} {Dd : Ends} {σ : L2.St} {H : Hp} (h : liftS tw W (dPopL j i) Dd σ H) : tAsg (tBM0 K "list" rPop (tVar i)) (gName j) Dd σ H := by
  obtain ⟨F, own, Γ, E, ht, R, ⟨hij, h⟩, k⟩ := h
  split at h
  · rename_i ds e
    split at h
    · rename_i d ed
      obtain ⟨p, h1, h2, vs, h3, h4⟩ := R.owns e
      rw [List.getLast?_eq_getElem?] at ed
      obtain ⟨v, hv, rv⟩ := h4.get ed
      refine ⟨.ref p, h2, tyL h3, p, vs, v, rfl, rfl, h3, by rw [h4.length]; exact hv, ?_⟩
      have R1 := R.write h1 (o := .lst vs.dropLast) (x := .p (.list ds.dropLast)) trivial ⟨vs.dropLast, upd_same, h4.dropLast⟩
      exact k.nx _ _ _ _ (R1.set' (v := v) (x := .p d) (dq_sub (R.grw h1) _ _ rv)) (Gr.trans (R.grw h1) off_sub) h
    · exact h.elim
  · exact h.elim
end
end WL

set_option maxRecDepth 100000
set_option maxHeartbeats 1000000
namespace WL
open PySem PySem.Spec PyProof.Rows L2
/-! ### what a def promises, over data -/
inductive Reps (I : Hp) : List V → List D → Prop
  | nil : Reps I [] []
  | cons {v : V} {vs : List V} {x : D} {xs : List D} : Rep I v x → Reps I vs xs → Reps I (v :: vs) (x :: xs)
theorem Reps.length {I : Hp} : ∀ {vs : List V} {xs : List D}, Reps I vs xs → vs.length = xs.length
  | _, _, .nil => rfl
  | _, _, .cons _ t => congrArg (· + 1) (Reps.length t)
theorem Reps.sub {I I' : Hp} (s : Sub I I') : ∀ {vs : List V} {xs : List D}, Reps I vs xs → Reps I' vs xs
  | _, _, .nil => .nil
  | _, _, .cons r t => .cons (r.sub s) (Reps.sub s t)
theorem Reps.get {I : Hp} : ∀ {vs : List V} {xs : List D} {i : Nat} {x : D}, Reps I vs xs → xs[i]? = some x → ∃ v, vs[i]? = some v ∧ Rep I v x
  | _, _, _, _, .nil, e => by simp at e
  | _, _, 0, _, .cons r _, e => by simp at e; subst e; exact ⟨_, rfl, r⟩
  | _, _, i + 1, _, .cons _ t, e => by
    obtain ⟨v, h1, h2⟩ := Reps.get (i := i) t (by simpa using e)
    exact ⟨v, by simpa using h1, h2⟩
/-- the data of the arguments, what follows the answer, what follows an exception (its class) -/
abbrev DSp := Tw → List D → (D → Prop) → (Value → Prop) → Prop
def tFit (tw : Tw) (H : Hp) : Prop := tw.TI H ∧ ∀ a, tw.T a → ∃ o, H a = some o ∧ notTup o
def spOf (dsp : DSp) : Sp := fun vs H Q E => ∃ (tw : Tw) (X : Addr → Prop) (ds : List D) (Qd : D → Prop) (Ed : Value → Prop), Frm.Ok ⟨tw, X, H, H⟩ ∧ tw.TI H ∧ (∀ a, X a → ∃ o, H a = some o ∧ notTup o) ∧ Reps (hide H X) vs ds ∧ dsp tw ds Qd Ed ∧
  (∀ v H' d, (∀ a o, H a = some o → ¬ tw.T a → H' a = some o) → tFit tw H' → Rep (hide H' X) v d → Qd d → Q v H') ∧ (∀ c H', (∀ a o, H a = some o → ¬ tw.T a → H' a = some o) → tFit tw H' → Ed c → E c none H')
structure FnV (P : Program) (w : World) (K : PySem.W.Frag) (mg : Str → Option Value) (base : Heap) (k : Nat) (x : Str) (ps : List Str) (ns : List Nat) (dsp : DSp) : Prop where
  ex : ∃ f fd, FnOk P w K mg base (L2.CX P w) k f fd ps (spOf dsp) ∧ mg x = some (.ref f) ∧ PySem.W.keepIn K (.ref f) = true ∧ Binds K fd ps [] ∧ ∀ n ∈ ns, KBn K fd ps n (ps.drop n) (fun us ws => us ++ ws) (fun us ws => us ++ ws)
theorem FnV.mono {P : Program} {w : World} {K : PySem.W.Frag} {mg : Str → Option Value} {base : Heap} {j k : Nat} {x : Str} {ps : List Str} {ns : List Nat} {dsp : DSp} (h : FnV P w K mg base j x ps ns dsp) (e : j ≤ k) : FnV P w K mg base k x ps ns dsp := by
  obtain ⟨f, fd, h1, h2⟩ := h.ex
  exact ⟨f, fd, h1.mono e, h2⟩
def vals (Q : List D → Prop) : List AV → Prop
  | [] => Q []
  | x :: xs => x.val fun d => vals (fun ds => Q (d :: ds)) xs
theorem vals_rep {F : Frm} {own : Nat → Option Addr} {H : Hp} : ∀ {xs : List AV} {vs : List V} {P : List D → Prop}, RepAVs F own H vs xs → vals P xs → ∃ ds, P ds ∧ Reps (vis F own H) vs ds
  | [], _, _, .nil, q => ⟨[], q, .nil⟩
  | x :: xs, _, _, .cons r t, q => by
    obtain ⟨d, _, q1, r1⟩ := AV.val_rep r q
    obtain ⟨ds, q2, r2⟩ := vals_rep t q1
    exact ⟨d :: ds, q2, .cons r1 r2⟩
def dCall (sp : List D → (D → Prop) → (Value → Prop) → Prop) (t : DA) : DE := fun Γ Q Ed => t Γ (vals fun ds => sp ds (fun d => Q (.c d)) Ed) Ed
theorem call_go {dsp : DSp} {tw : Tw} {W : WX} {F : Frm} {own : Nat → Option Addr} {Γ : List SV} {σ : L2.St} {H : Hp} {Qd : AV → Prop} {Ed : Value → Prop} {Q : VK} {vs : List V} {ds : List D} (ht : F.tw = tw) (R : Rel F own Γ σ H) (k : Kont F own Γ σ H Qd Q) (kx : KonX F own Γ σ H Ed W)
    (r : Reps (vis F own H) vs ds) (q : dsp tw ds (fun d => Qd (.c d)) Ed) : spOf dsp vs H Q (WE W σ) := by
  subst ht
  refine ⟨F.tw, XX F own, ds, _, _, ⟨fun a t => .inl (R.ok.tx a t), R.ok.st⟩, R.ti, fun a h => R.hid h, r, q, fun v H' d e f rv qd => ?_, fun c H' e f qe => ?_⟩
  · exact k v H' (.c d) (R.to e f.1 f.2) e rv qd
  · exact kx c H' (R.to e f.1 f.2) e qe
section
variable {X : Cx} {tw : Tw} {W : WX} {e : Expr} {es : List Expr} {pos p : Pos} {t : DA} {dsp : DSp} {k : Nat} {x : Str} {ps : List Str} {ns : List Nat}
theorem ve_call (G : FnV X.prog X.w X.K X.mg X.base k x ps ns dsp) (hr : Room k X.A) (tk : Takes X W) (hg : Gl X x) (ha : VA X tw W (e :: es) t) (hdb : (x == ("__debug__" : Str)) = false := by decide) (hA : ArgsOk X pos e es := by exact ⟨rfl, rfl⟩) :
    VE X tw W (.Call (.Name x p) (e :: es) [] pos) (dCall (dsp tw) t) := by
  obtain ⟨f, fd, G1, hm, kp, b, _⟩ := G.ex
  refine PE.mono (pe_callS G1 hr hg hm kp b (passAt tk) ha hdb hA.1 hA.2) fun σ H Q ⟨F, own, Γ, Qd, Ed, ht, R, h, k, kx⟩ => ?_
  refine liftA_mk ht R kx h fun vs H1 xs R1 e1 r1 q1 => ?_
  obtain ⟨ds, q2, r2⟩ := vals_rep r1 q1
  exact call_go ht R1 (k.ext e1) (kx.ext e1) r2 q2
end
/-! ### a def keeps its promise -/
def startD (N : List Str) (ds : List D) : List SV := ds.map SV.d ++ List.replicate (N.length - ds.length) .un
def endsOf (Qd : D → Prop) (Ed : Value → Prop) : EndsD := { nx := fun _ => Qd dN, rt := Qd, ex := fun _ c => Ed c }
theorem rel_start {tw : Tw} {X : Addr → Prop} {H : Hp} {vs : List V} {ds : List D} {N : List Str} (ok : Frm.Ok ⟨tw, X, H, H⟩) (ti : tw.TI H) (x : ∀ a, X a → ∃ o, H a = some o ∧ notTup o) (r : Reps (hide H X) vs ds) : Rel ⟨tw, X, H, H⟩ (fun _ => none) (startD N ds) (L2.start N vs) H where
  ok := ok
  ext := fun _ _ h _ => h
  bas := fun _ o h => ⟨o, h⟩
  ti := ti
  x := x
  len := by
    unfold startD L2.start
    simp only [List.length_append, List.length_map, List.length_replicate, r.length]
  sl := fun i g hi => by
    have sb : Sub (hide H X) (vis ⟨tw, X, H, H⟩ (fun _ => none) H) := fun a o e => by
      obtain ⟨e1, e2⟩ := of_hide e
      refine hide_of e1 fun z => ?_
      rcases z with z | ⟨j, z⟩
      · exact e2 z
      · cases z
    unfold startD at hi
    by_cases h : i < ds.length
    · rw [List.getElem?_append_left (by rw [List.length_map]; exact h), List.getElem?_map] at hi
      cases e : ds[i]? with
      | none => rw [e] at hi; cases hi
      | some d =>
        rw [e] at hi
        cases hi
        obtain ⟨v, hv, rv⟩ := r.get e
        refine ⟨rfl, v, ?_, rv.sub sb⟩
        unfold L2.start
        rw [List.getElem?_append_left (by rw [List.length_map, r.length]; exact h), List.getElem?_map, hv]
        rfl
    · rw [List.getElem?_append_right (by rw [List.length_map]; omega), List.getElem?_replicate] at hi
      split at hi
      · cases hi
        rfl
      · cases hi
  inj := fun _ _ _ h => by cases h
  fr := fun _ _ h => by cases h
section
variable {P : Program} {w : World} {K : PySem.W.Frag} {mg : Str → Option Value} {base : Heap} {x qual : Str} {params : Arguments} {body : List Stmt} {scope : Scope} {f : Addr} {fd : FuncData}
abbrev cxV (P : Program) (w : World) (K : PySem.W.Frag) (mg : Str → Option Value) (base : Heap) (N : List Str) (qual : Str) (scope : Scope) (f : Addr) (cdv : Value) (A : Around) (outer : List Env) (s : Shared) (H : Hp) (E : XK) : Cx := cxOf (L2.CX P w) P w K mg base N qual scope f cdv A outer s H E
abbrev wE (E : XK) : WX := fun cls d _ H => E cls d H
theorem fn_ok {N ps : List Str} {k : Nat} (F : FunD K x qual params body scope [] [] f fd) (S : FnScope N ps scope) (dsp : DSp) (len : ∀ tw ds Q E, dsp tw ds Q E → ds.length = ps.length)
    (hbody : ∀ (cdv : Value) (A : Around) (outer : List Env) (s : Shared) (H : Hp) (E : XK) (tw : Tw), Room k (A.deeper (envOfC qual scope s.heap.objs.size f cdv)) → Takes (cxV P w K mg base N qual scope f cdv A outer s H E) (wE E) → PassesOwn (model P w) (cxV P w K mg base N qual scope f cdv A outer s H E).A (cxV P w K mg base N qual scope f cdv A outer s H E).env (cxV P w K mg base N qual scope f cdv A outer s H E).xe →
      ∃ t : DS, VSs (cxV P w K mg base N qual scope f cdv A outer s H E) tw (wE E) body t ∧ ∀ ds Qd Ed, dsp tw ds Qd Ed → t (endsOf Qd Ed) (startD N ds)) : FnOk P w K mg base (L2.CX P w) (k + 1) f fd ps (spOf dsp) := by
  refine F.ok S (fun vs H Q E h => ?_) fun cdv A outer s H vs Q E hr h => ?_
  · obtain ⟨tw, X, ds, Qd, Ed, _, _, _, r, q, _⟩ := h
    rw [r.length]
    exact len tw ds Qd Ed q
  · obtain ⟨tw, X, ds, Qd, Ed, ok, ti, hx, r, q, kq, ke⟩ := h
    obtain ⟨t, ht, hq⟩ := hbody cdv A outer s H E tw hr (takes_of rfl rfl rfl rfl) (passes_of rfl)
    refine ⟨_, ht, ⟨tw, X, H, H⟩, fun _ => none, startD N ds, endsOf Qd Ed, rfl, rel_start ok ti hx r, hq ds Qd Ed q, ?_⟩
    have fit : ∀ {own' : Nat → Option Addr} {Γ' : List SV} {σ' : L2.St} {H' : Hp}, Rel ⟨tw, X, H, H⟩ own' Γ' σ' H' → tFit tw H' := fun R => ⟨R.ti, fun a t => R.x a (R.ok.tx a t)⟩
    refine ⟨fun own' Γ' σ' H' R _ q => ?_, fun v d own' Γ' σ' H' R _ rv q => ?_, fun _ _ _ _ _ _ q => q.elim, fun _ _ _ _ _ _ q => q.elim, fun c own' Γ' σ' H' R _ q => ?_⟩
    · exact kq .non H' dN R.ext (fit R) Dq.non q
    · exact kq v H' d R.ext (fit R) rv q
    · exact ke c H' R.ext (fit R) q
theorem FunD.kbinds {n : Nat} {ps : List Str} (F : FunD K x qual params body scope [] [] f fd)
    (h : ∀ (kV doc pm : Value) (an : Option Addr) (cdv ct : Value) (us ws : List Value), us.length = n → ws.length = (ps.drop n).length → bindArgs (PySem.W.fnOf x qual params body scope .none kV doc pm an cdv ct) ⟨us, (ps.drop n).zip ws⟩ = pure (ps.zip (us ++ ws))) :
    KBn K fd ps n (ps.drop n) (fun us ws => us ++ ws) (fun us ws => us ++ ws) := by
  obtain ⟨oc, od, dV, kV, doc, pm, an, cdv, ct, osl, rfl, lk, hcd, hD, hK⟩ := F.ex
  rcases hD with ⟨_, rfl⟩ | ⟨e, _⟩
  · exact ⟨fun s us ws X l1 l2 => .of_eq (h kV doc pm an cdv ct us ws l1 l2), fun r1 r2 => r1.append r2⟩
  · exact absurd rfl e
theorem fnV_mk {ps : List Str} {ns : List Nat} {k : Nat} {dsp : DSp} (F : FunD K x qual params body scope [] [] f fd) (G : FnOk P w K mg base (L2.CX P w) k f fd ps (spOf dsp)) (hm : mg x = some (.ref f))
    (hb : ∀ (kV doc pm : Value) (an : Option Addr) (cdv ct : Value) (us : List Value), us.length = ps.length → bindArgs (PySem.W.fnOf x qual params body scope .none kV doc pm an cdv ct) ⟨us, []⟩ = pure (ps.zip us))
    (hk : ∀ n ∈ ns, ∀ (kV doc pm : Value) (an : Option Addr) (cdv ct : Value) (us ws : List Value), us.length = n → ws.length = (ps.drop n).length → bindArgs (PySem.W.fnOf x qual params body scope .none kV doc pm an cdv ct) ⟨us, (ps.drop n).zip ws⟩ = pure (ps.zip (us ++ ws))) : FnV P w K mg base k x ps ns dsp :=
  ⟨f, fd, G, hm, F.kp, F.bindsN hb, fun n hn => FunD.kbinds F (hk n hn)⟩
end
end WL

set_option maxRecDepth 100000
set_option maxHeartbeats 1000000
namespace WL
open PySem PySem.Spec PyProof.Rows L2
/-! ### what is walked -/
/-- the iterator J yields the data xs, as long as what is seen in G stays; the items are seen in I -/
def DqY (w : Bool) (I : Hp) (v : V) (d : PyData) : Prop := Dq I v d ∨ (w = true ∧ ∃ a vs ds, v = .ref a ∧ d = .tuple ds ∧ I a = some (.tup vs) ∧ DqA I vs ds)
theorem DqY.sub {w : Bool} {I I' : Hp} (s : Sub I I') {v : V} {d : PyData} : DqY w I v d → DqY w I' v d
  | .inl h => .inl (dq_sub s _ _ h)
  | .inr ⟨h, a, vs, ds, e1, e2, e3, e4⟩ => .inr ⟨h, a, vs, ds, e1, e2, s _ _ e3, dqA_sub s _ _ e4⟩
def ItOk (w : Bool) (I G : Hp) (J : It) (xs : List PyData) : Prop := ∀ I2 G2 H2, Sub I I2 → Sub G G2 → Sub I2 H2 → Sub G2 H2 →
  (∀ i x, xs[i]? = some x → J.go i H2 ∧ ∀ v H', J.yld i H2 v H' → (H' = H2 ∧ DqY w I2 v x) ∨ ∃ p o, H2 p = none ∧ H' = upd H2 p o ∧ DqY w (upd I2 p o) v x) ∧ J.stop xs.length H2
theorem ItOk.more {w : Bool} {I G G' : Hp} {J : It} {xs : List PyData} (h : ItOk w I G J xs) (s : Sub G G') : ItOk w I G' J xs := fun I2 G2 H2 a b c d => h I2 G2 H2 a (fun x o e => b x o (s x o e)) c d
abbrev DI := List SV → (List PyData → Prop) → (Value → Prop) → Prop
def liftI (tw : Tw) (W : WX) (w : Bool) (t : DI) : TI := fun σ H R => ∃ F own Γ Qd Ed, F.tw = tw ∧ Rel F own Γ σ H ∧ t Γ Qd Ed ∧ (∀ J H' xs, Rel F own Γ σ H' → Ext F H H' → ItOk w (vis F own H') (vis F own H') J xs → Qd xs → R J H') ∧ KonX F own Γ σ H Ed W
/-- .. in a comprehension: own things may be walked -/
def liftJ (tw : Tw) (W : WX) (w : Bool) (t : DI) : TI := fun σ H R => ∃ F own Γ Qd Ed, F.tw = tw ∧ Rel F own Γ σ H ∧ t Γ Qd Ed ∧ (∀ J H' xs, Rel F own Γ σ H' → Ext F H H' → ItOk w (vis F own H') (hide H' F.tw.T) J xs → Qd xs → R J H') ∧ KonX F own Γ σ H Ed W
abbrev VI (X : Cx) (tw : Tw) (W : WX) (w : Bool) (tg e : Expr) (t : DI) : Prop := PI X tg e (liftI tw W w t)
abbrev VJ (X : Cx) (tw : Tw) (W : WX) (w : Bool) (tg e : Expr) (t : DI) : Prop := PI X tg e (liftJ tw W w t)
theorem PI.mono {X : Cx} {tg e : Expr} {t t' : TI} (h : PI X tg e t) (m : ∀ σ H R, t' σ H R → t σ H R) : PI X tg e t' := ⟨fun pins s σ H R I q => h.run pins s σ H R I (m σ H R q)⟩
theorem it_list {w : Bool} {K : PySem.W.Frag} {I G : Hp} {a : Addr} {vs : List V} {ds : List PyData} (h : G a = some (.lst vs)) (r : DqA I vs ds) : ItOk w I G (Itl K a) ds := fun I2 G2 H2 s1 s2 s3 s4 => by
  have e : SqL K H2 a vs := .of (s4 _ _ (s2 _ _ h))
  refine ⟨fun i x hx => ?_, vs, e, by rw [r.length]; exact Nat.le_refl _⟩
  obtain ⟨v, hv, rv⟩ := r.get hx
  refine ⟨⟨vs, v, e, hv⟩, fun v' H' ⟨e1, e2⟩ => .inl ⟨e1, ?_⟩⟩
  have := e2 vs e
  rw [hv] at this
  cases this
  exact .inl (dq_sub s1 _ _ rv)
theorem it_tup {w : Bool} {K : PySem.W.Frag} {I G : Hp} {a : Addr} {o : Obj} {vs : List V} {ds : List PyData} (h : G a = some (.frz o (.tup vs))) (r : DqA I vs ds) : ItOk w I G (Itt K a) ds := fun I2 G2 H2 s1 s2 s3 s4 => by
  have e : SqT K H2 a vs := sqT_frz (s4 _ _ (s2 _ _ h))
  refine ⟨fun i x hx => ?_, vs, e, by rw [r.length]; exact Nat.le_refl _⟩
  obtain ⟨v, hv, rv⟩ := r.get hx
  refine ⟨⟨vs, v, e, hv⟩, fun v' H' ⟨e1, e2⟩ => .inl ⟨e1, ?_⟩⟩
  have := e2 vs e
  rw [hv] at this
  cases this
  exact .inl (dq_sub s1 _ _ rv)
theorem it_range {w : Bool} {I G : Hp} {lo : Int} {n : Nat} : ItOk w I G (Itr lo n) ((List.range n).map fun (i : Nat) => .int (lo + i)) := fun I2 G2 H2 s1 s2 s3 s4 => by
  refine ⟨fun i x hx => ?_, by show n ≤ _; simp⟩
  rw [List.getElem?_map] at hx
  by_cases hi : i < n
  · rw [List.getElem?_range hi] at hx
    cases hx
    refine ⟨hi, fun v H' ⟨e1, e2⟩ => .inl ⟨e1, ?_⟩⟩
    rw [e2]
    exact .inl (.int _)
  · rw [List.getElem?_eq_none (by simpa using hi)] at hx
    cases hx
/-- pairs of items -/
def zipD (xs ys : List PyData) : List PyData := List.zipWith (fun x y => .tuple [x, y]) xs ys
theorem zip_get {xs ys : List PyData} {i : Nat} {z : PyData} (h : (zipD xs ys)[i]? = some z) : ∃ x y, xs[i]? = some x ∧ ys[i]? = some y ∧ z = .tuple [x, y] := by
  unfold zipD at h
  rw [List.getElem?_zipWith] at h
  split at h
  · rename_i x y e1 e2
    cases h
    exact ⟨x, y, e1, e2, rfl⟩
  · cases h
theorem pair_new {I2 : Hp} {T : Addr} {a b : V} {x y : PyData} (n : I2 T = none) (r : Dq I2 a x) (q : Dq I2 b y) : DqY true (upd I2 T (.tup [a, b])) (.ref T) (.tuple [x, y]) := by
  have s : Sub I2 (upd I2 T (.tup [a, b])) := fun c o e => by rw [upd_ne (ne_of_none e n)]; exact e
  exact .inr ⟨rfl, T, _, _, rfl, rfl, upd_same, .cons (dq_sub s _ _ r) (.cons (dq_sub s _ _ q) .nil)⟩
theorem sub_none {I H : Hp} (s : Sub I H) {a : Addr} (h : H a = none) : I a = none := by
  cases e : I a with
  | none => rfl
  | some o =>
    have := s a o e
    rw [h] at this
    cases this
theorem it_zipL {K : PySem.W.Frag} {I G : Hp} {a b : Addr} {vs ws : List V} {ds es : List PyData} (h : G a = some (.lst vs)) (h' : G b = some (.lst ws)) (r : DqA I vs ds) (r' : DqA I ws es) : ItOk true I G (Itz K a b) (zipD ds es) := fun I2 G2 H2 s1 s2 s3 s4 => by
  have e : SqL K H2 a vs := .of (s4 _ _ (s2 _ _ h))
  have e' : SqL K H2 b ws := .of (s4 _ _ (s2 _ _ h'))
  refine ⟨fun i z hz => ?_, vs, ws, e, e', ?_⟩
  · obtain ⟨x, y, hx, hy, rfl⟩ := zip_get hz
    obtain ⟨v, hv, rv⟩ := r.get hx
    obtain ⟨u, hu, ru⟩ := r'.get hy
    refine ⟨⟨vs, ws, v, u, e, e', hv, hu⟩, fun q H' ⟨T, v', u', h1, h2, h3, h4, h5⟩ => .inr ⟨T, _, h2, h3, ?_⟩⟩
    have := h4 vs e
    rw [hv] at this
    cases this
    have := h5 ws e'
    rw [hu] at this
    cases this
    subst h1
    exact pair_new (sub_none s3 h2) (dq_sub s1 _ _ rv) (dq_sub s1 _ _ ru)
  · unfold zipD
    rw [List.length_zipWith, ← r.length, ← r'.length]
    omega
theorem it_zipT {K : PySem.W.Frag} {I G : Hp} {a b : Addr} {o o' : Obj} {vs ws : List V} {ds es : List PyData} (h : G a = some (.frz o (.tup vs))) (h' : G b = some (.frz o' (.tup ws))) (r : DqA I vs ds) (r' : DqA I ws es) : ItOk true I G (RZ.ItzT K a b) (zipD ds es) := fun I2 G2 H2 s1 s2 s3 s4 => by
  have e : SqT K H2 a vs := sqT_frz (s4 _ _ (s2 _ _ h))
  have e' : SqT K H2 b ws := sqT_frz (s4 _ _ (s2 _ _ h'))
  refine ⟨fun i z hz => ?_, vs, ws, e, e', ?_⟩
  · obtain ⟨x, y, hx, hy, rfl⟩ := zip_get hz
    obtain ⟨v, hv, rv⟩ := r.get hx
    obtain ⟨u, hu, ru⟩ := r'.get hy
    refine ⟨⟨vs, ws, v, u, e, e', hv, hu⟩, fun q H' ⟨T, v', u', h1, h2, h3, h4, h5⟩ => .inr ⟨T, _, h2, h3, ?_⟩⟩
    have := h4 vs e
    rw [hv] at this
    cases this
    have := h5 ws e'
    rw [hu] at this
    cases this
    subst h1
    exact pair_new (sub_none s3 h2) (dq_sub s1 _ _ rv) (dq_sub s1 _ _ ru)
  · unfold zipD
    rw [List.length_zipWith, ← r.length, ← r'.length]
    omega
theorem vis_T {F : Frm} {own : Nat → Option Addr} {H : Hp} (ok : F.Ok) : Sub (vis F own H) (hide H F.tw.T) := fun a o e => by
  obtain ⟨e1, e2⟩ := of_hide e
  exact hide_of e1 fun t => e2 (.inl (ok.tx a t))
section
variable {X : Cx} {tw : Tw} {W : WX} {tg e e2 : Expr} {da : DE} {t : DA} {pos p : Pos} {w : Bool}
theorem VI.vj {di : DI} (h : VI X tw W w tg e di) : VJ X tw W w tg e di := PI.mono h fun σ H R ⟨F, own, Γ, Qd, Ed, ht, R0, q, k, kx⟩ => ⟨F, own, Γ, Qd, Ed, ht, R0, q, fun J H' xs R1 e1 it qx => k J H' xs R1 e1 (it.more (vis_T R1.ok)) qx, kx⟩
/-- a list or a tuple -/
def iSeq (K : PySem.W.Frag) (tl : TE) : TI := fun σ H R => tl σ H fun x H1 => ∃ a, x = .ref a ∧ (((∃ xs, SqL K H1 a xs) ∧ R (Itl K a) H1) ∨ ((∃ xs, SqT K H1 a xs) ∧ R (Itt K a) H1))
theorem pi_seq {l : Expr} {tl : TE} (hl : PE X l tl) : PI X tg l (iSeq X.K tl) := by
  refine ⟨fun pins s σ H R I h => ?_⟩
  refine thn (hl.run pins s σ H _ I h) fun v s1 ⟨x, H1, I1, r1, q1⟩ => ?_
  obtain ⟨a, e, q⟩ := q1
  subst e
  cases r1
  rcases q with ⟨⟨xs, hq⟩, q⟩ | ⟨⟨xs, hq⟩, q⟩
  · obtain ⟨its, rv, p, hz⟩ := I1.list hq
    refine wpAny_pyIter_list p.isList ?_
    refine ⟨s1.heap.objs.size, [s1.heap.objs.size], _, _, H1, rfl, I1.kept (t' := s1.toks) fun b o e => Heap.get?_push_of_some _ e, turn_list a _, ⟨_, Heap.get?_push_size _ rfl, rfl, rfl⟩, fun b hb => ?_, q⟩
    have e : b = s1.heap.objs.size := by simpa using hb
    subst e
    exact I1.fpOk (Nat.le_refl _) (I1.hok.fresh (Nat.le_refl _))
  · obtain ⟨its, rv, p, hz⟩ := I1.tuple hq
    refine wpAny_pyIter_tuple (show s1.heap.IsTuple a its.toArray from p) ?_
    refine ⟨s1.heap.objs.size, [s1.heap.objs.size], _, _, H1, rfl, I1.kept (t' := s1.toks) fun b o e => Heap.get?_push_of_some _ e, turn_tuple a _, ⟨_, Heap.get?_push_size _ rfl, rfl, rfl⟩, fun b hb => ?_, q⟩
    have e : b = s1.heap.objs.size := by simpa using hb
    subst e
    exact I1.fpOk (Nat.le_refl _) (I1.hok.fresh (Nat.le_refl _))
def dSeqI (te : DE) : DI := fun Γ Q Ed => te Γ (fun x => x.val fun d => match d with
  | .p (.list xs) => Q xs
  | .p (.tuple xs) => Q xs
  | _ => False) Ed
def dSeqJ (te : DE) : DI := fun Γ Q Ed => te Γ (fun x => match x.any with
  | .p (.list xs) => Q xs
  | .p (.tuple xs) => Q xs
  | _ => False) Ed
theorem vi_seq (h : VE X tw W e da) : VI X tw W w tg e (dSeqI da) := PI.mono (pi_seq h) fun σ H R ⟨F, own, Γ, Qd, Ed, ht, R0, q, k, kx⟩ => by
  refine lift_mk ht R0 kx q fun v H1 x R1 e1 r1 q1 => ?_
  obtain ⟨d, ed, q1, r2⟩ := AV.val_rep r1 q1
  split at q1
  · cases r2 with
    | lst h1 h2 => exact ⟨_, rfl, .inl ⟨⟨_, .of (sub_hide _ _ h1)⟩, k _ _ _ R1 e1 (it_list h1 h2) q1⟩⟩
  · cases r2 with
    | tup h1 h0 h2 => exact ⟨_, rfl, .inr ⟨⟨_, sqT_frz (sub_hide _ _ h1)⟩, k _ _ _ R1 e1 (it_tup h1 h2) q1⟩⟩
  · exact q1.elim
theorem vj_seq (h : VE X tw W e da) : VJ X tw W w tg e (dSeqJ da) := PI.mono (pi_seq h) fun σ H R ⟨F, own, Γ, Qd, Ed, ht, R0, q, k, kx⟩ => by
  refine lift_mk ht R0 kx q fun v H1 x R1 e1 r1 q1 => ?_
  split at q1
  · rename_i xs ex
    obtain ⟨a, vs, rfl, h1, h2⟩ := r1.lst ex
    have nt : ¬ F.tw.T a := fun t => by
      cases x with
      | c y =>
        cases ex
        cases r1 with
        | lst h3 _ => exact (of_hide h3).2 (.inl (R1.ok.tx a t))
      | b y =>
        obtain ⟨i, p, h3, h4, _⟩ := r1
        cases h4
        exact R1.notT h3 t
      | f y =>
        obtain ⟨p, h4, _, h3, _⟩ := r1
        cases h4
        exact h3 (.inl (R1.ok.tx a t))
    exact ⟨_, rfl, .inl ⟨⟨_, .of h1⟩, k _ _ _ R1 e1 (it_list (hide_of h1 nt) h2) q1⟩⟩
  · rename_i xs ex
    obtain ⟨a, o, vs, rfl, h1, h0, h2⟩ := r1.tup ex
    exact ⟨_, rfl, .inr ⟨⟨_, sqT_frz (sub_hide _ _ h1)⟩, k _ _ _ R1 e1 (it_tup (vis_T R1.ok _ _ h1) h2) q1⟩⟩
  · exact q1.elim
/-- range(n) -/
def dRange (t : DA) : DI := fun Γ Q Ed => t Γ (fun xs => match xs with
  | [.c (.p (.int n))] => -1000000 ≤ n ∧ n ≤ 1000000 ∧ Q ((List.range n.toNat).map fun (i : Nat) => .int (0 + i))
  | _ => False) Ed
theorem vi_range {a : Expr} (B : Blt X.mg) (hg : Gl X "range") (ha : VA X tw W [a] t) (hs : starEach [a] X.env = [(false, eval a X.env)] := by rfl) : VI X tw W w tg (.Call (.Name "range" p) [a] [] pos) (dRange t) := PI.mono (pi_range1 hg B.range ha hs) fun σ H R ⟨F, own, Γ, Qd, Ed, ht, R0, q, k, kx⟩ => by
  refine liftA_mk ht R0 kx q fun vs H1 xs R1 e1 r1 q1 => ?_
  split at q1
  · rename_i n
    cases r1 with
    | cons r rn =>
      cases rn
      cases r
      exact ⟨n, rfl, by omega, by omega, k _ _ _ R1 e1 it_range q1.2.2⟩
  · exact q1.elim
/-- zip(xs, ys), two lists or two tuples -/
def dZip (t : DA) : DI := fun Γ Q Ed => t Γ (fun xs => match xs with
  | [x, y] => x.dat fun d => y.dat fun d' => (match d, d' with
    | .list xs, .list ys => Q (zipD xs ys)
    | .tuple xs, .tuple ys => Q (zipD xs ys)
    | _, _ => False)
  | _ => False) Ed
theorem vi_zip {elts : List Expr} {kk : Nat} {tpos : Pos} (B : Blt X.mg) (hg : Gl X "zip") (ha : VA X tw W [e, e2] t) (hs : starEach [e, e2] X.env = (false, eval e X.env) :: starEach [e2] X.env := by rfl) (hpl : (backTo pos (starEach [e2] X.env)).any (·.1) = false := by rfl) :
    VI X tw W true (.Tuple elts kk tpos) (.Call (.Name "zip" p) [e, e2] [] pos) (dZip t) := PI.mono (RZ.pi_zipA hg B.zip ha hs hpl) fun σ H R ⟨F, own, Γ, Qd, Ed, ht, R0, q, k, kx⟩ => by
  refine liftA_mk ht R0 kx q fun vs H1 xs R1 e1 r1 q1 => ?_
  split at q1
  · cases r1 with
    | cons r rn =>
      cases rn with
      | cons r' rn =>
        cases rn
        obtain ⟨d, q2, hd, _⟩ := AV.dat_rep r q1
        obtain ⟨d', q3, hd', _⟩ := AV.dat_rep r' q2
        split at q3
        · cases hd with
          | lst h1 h2 =>
            cases hd' with
            | lst h3 h4 => exact ⟨_, _, _, _, rfl, .inl ⟨.of (sub_hide _ _ h1), .of (sub_hide _ _ h3), k _ _ _ R1 e1 (it_zipL h1 h3 h2 h4) q3⟩⟩
        · cases hd with
          | tup h1 h0 h2 =>
            cases hd' with
            | tup h3 h0 h4 => exact ⟨_, _, _, _, rfl, .inr ⟨sqT_frz (sub_hide _ _ h1), sqT_frz (sub_hide _ _ h3), k _ _ _ R1 e1 (it_zipT h1 h3 h2 h4) q3⟩⟩
        · exact q3.elim
  · exact q1.elim
end
/-! ### targets -/
inductive Tgt where
  | one (i : Nat)
  | many (is : List Nat)
def Tgt.slots : Tgt → List Nat
  | .one i => [i]
  | .many is => is
def setAll : List Nat → List PyData → List SV → List SV
  | i :: is, d :: ds, Γ => setAll is ds (Γ.set i (.d (.p d)))
  | _, _, Γ => Γ
def setV : List Nat → List V → L2.St → L2.St
  | i :: is, v :: vs, σ => setV is vs (σ.set i (some v))
  | _, _, σ => σ
def Tgt.wide : Tgt → Bool
  | .one _ => false
  | .many _ => true
def dTgt : Tgt → PyData → List SV → Option (List SV)
  | .one i, d, Γ => some (Γ.set i (.d (.p d)))
  | .many is, .tuple ds, Γ => if ds.length = is.length then some (setAll is ds Γ) else none
  | .many _, _, _ => none
def offAll : List Nat → (Nat → Option Addr) → Nat → Option Addr
  | [], own => own
  | i :: is, own => offAll is (offO own i)
section
variable {F : Frm} {H : Hp}
theorem offAll_none : ∀ {is : List Nat} {own : Nat → Option Addr}, (∀ i ∈ is, own i = none) → offAll is own = own
  | [], _, _ => rfl
  | i :: is, own, h => by
    unfold offAll
    rw [offO_none (h i List.mem_cons_self)]
    exact offAll_none fun j hj => h j (List.mem_cons_of_mem _ hj)
theorem offAll_sub : ∀ {is : List Nat} {own : Nat → Option Addr}, Sub (vis F own H) (vis F (offAll is own) H)
  | [], _ => fun _ _ h => h
  | i :: is, own => fun a o h => offAll_sub (is := is) a o (off_sub a o h)
theorem Rel.setAll : ∀ {is : List Nat} {ds : List PyData} {vs : List V} {own : Nat → Option Addr} {Γ : List SV} {σ : L2.St}, Rel F own Γ σ H → DqA (vis F own H) vs ds → ds.length = is.length → Rel F (offAll is own) (setAll is ds Γ) (setV is vs σ) H
  | [], [], _, own, Γ, σ, R, .nil, _ => R
  | i :: is, d :: ds, _, own, Γ, σ, R, .cons r t, hl => by
    have R1 := R.set' (i := i) (x := .p d) r
    exact Rel.setAll (is := is) (ds := ds) (own := offO own i) (Γ := Γ.set i (.d (.p d))) R1 (dqA_sub off_sub _ _ t) (by simpa using hl)
  | [], _ :: _, _, _, _, _, _, _, hl => by simp at hl
  | _ :: _, [], _, _, _, _, _, _, hl => by simp at hl
end
/-- a target's reading: the slots afterwards -/
def liftG (T : Tgt) : TG := fun v σ H Q => ∃ F own Γ d Γ', Rel F own Γ σ H ∧ DqY T.wide (vis F own H) v d ∧ dTgt T d Γ = some Γ' ∧ (∀ vs, Rel F (offAll T.slots own) Γ' (setV T.slots vs σ) H → Q (setV T.slots vs σ) H)
abbrev VG (X : Cx) (tg : Expr) (T : Tgt) : Prop := PG X tg (liftG T)
theorem PG.mono {X : Cx} {tg : Expr} {t t' : TG} (h : PG X tg t) (m : ∀ v σ H Q, t' v σ H Q → t v σ H Q) : PG X tg t' := ⟨fun pins s σ H v u Q I r q => h.run pins s σ H v u Q I r (m v σ H Q q)⟩
/-- names in a row -/
def gNames : List Nat → TGs
  | [] => gNil
  | i :: is => gCons (gName i) (gNames is)
theorem gNames_run {H : Hp} {Q : L2.St → Hp → Prop} : ∀ {is : List Nat} {vs : List V} {σ : L2.St}, vs.length = is.length → Q (setV is vs σ) H → gNames is vs σ H Q
  | [], [], _, _, q => ⟨rfl, q⟩
  | i :: is, v :: vs, σ, hl, q => ⟨v, vs, rfl, gNames_run (is := is) (by simpa using hl) q⟩
  | [], _ :: _, _, hl, _ => by simp at hl
  | _ :: _, [], _, hl, _ => by simp at hl
section
variable {X : Cx} {pos : Pos}
theorem vg_one {i : Nat} {x : Str} (hN : X.N.Nodup) (hi : X.N[i]? = some x) (hx : Loc X.env.scope x) (hf : X.fn x = true ∨ X.env.scope.names.lookup x = some .local := by first | exact .inl rfl | exact .inr rfl | assumption) : VG X (.Name x pos) (.one i) :=
  PG.mono (pg_name hN hi hx hf) fun v σ H Q ⟨F, own, Γ, d, Γ', R, r, e, k⟩ => by
    cases e
    rcases r with r | ⟨r, _⟩
    · exact k [v] (R.set' (x := .p d) r)
    · cases r
theorem vg_many {es : List Expr} {k : Nat} {is : List Nat} (hc : X.calm = true) (h : PGs X es (gNames is)) (hn : (assignEach es X.env).length = is.length := by rfl) (hst : (assignEach es X.env).findIdx? (·.1) = none := by rfl) : VG X (.Tuple es k pos) (.many is) :=
  PG.mono (pg_tup hc h hn hst) fun v σ H Q ⟨F, own, Γ, d, Γ', R, r, e, k⟩ => by
    unfold dTgt at e
    split at e
    · cases ‹Tgt.many is = Tgt.one _›
    · rename_i is' ds e1
      cases e1
      split at e
      · rename_i hl
        cases e
        rcases r with r | ⟨_, a, vs, ds', rfl, e2, h1, h2⟩
        · cases r with
          | tup h1 h0 h2 => exact ⟨_, _, rfl, sqT_frz (sub_hide _ _ h1), h2.length.trans hl, gNames_run (h2.length.trans hl) (k _ (R.setAll h2 hl))⟩
        · cases e2
          exact ⟨_, _, rfl, .of (sub_hide _ _ h1), h2.length.trans hl, gNames_run (h2.length.trans hl) (k _ (R.setAll h2 hl))⟩
      · cases e
    · cases e
end
end WL

set_option maxRecDepth 100000
set_option maxHeartbeats 1000000
namespace WL
open PySem PySem.Spec PyProof.Rows L2
/-! ### for, while -/
def dForL (T : Tgt) (body : DS) (E : EndsD) : List PyData → List SV → Prop
  | [], Γ => E.nx Γ
  | x :: xs, Γ => match dTgt T x Γ with
    | some Γ1 => body { nx := dForL T body E xs, ct := dForL T body E xs, bk := E.nx, rt := E.rt, ex := E.ex } Γ1
    | none => False
def dFor (di : DI) (T : Tgt) (body : DS) : DS := fun E Γ => di Γ (fun xs => dForL T body E xs Γ) (E.ex Γ)
def dWhileN (c : DT) (body : DS) (E : EndsD) : Nat → List SV → Prop
  | 0, _ => False
  | n + 1, Γ => c Γ (fun b => if b = true then body { nx := dWhileN c body E n, ct := dWhileN c body E n, bk := E.nx, rt := E.rt, ex := E.ex } Γ else E.nx Γ) (E.ex Γ)
def dWhile (c : DT) (body : DS) : DS := fun E Γ => ∃ n, dWhileN c body E n Γ
theorem upd_vis {F : Frm} {own : Nat → Option Addr} {Γ : List SV} {σ : L2.St} {H : Hp} {p : Addr} {o : HO} (R : Rel F own Γ σ H) (n : H p = none) : Sub (upd (vis F own H) p o) (vis F own (upd H p o)) := fun a u e => by
  by_cases h : a = p
  · subst h
    rw [upd_same] at e
    cases e
    exact vis_new R n
  · rw [upd_ne h] at e
    obtain ⟨e1, e2⟩ := of_hide e
    exact hide_of (by rw [upd_ne h]; exact e1) e2
section
variable {X : Cx} {tw : Tw} {W : WX} {a b c e : Expr} {da db dc : DE} {ta tb : DT} {pos p : Pos} {es : List Expr} {st : Stmt} {sts sts' : List Stmt} {t u : DS}
theorem for_sim {di : DI} {T : Tgt} {body : DS} {Dd : Ends} {σ : L2.St} {H : Hp} (h : liftS tw W (dFor di T body) Dd σ H) : tFor (liftI tw W T.wide di) (liftG T) (liftS tw W body) Dd σ H := by
  obtain ⟨F, own, Γ, E, ht, R, h, k⟩ := h
  refine ⟨F, own, Γ, _, _, ht, R, h, fun J H1 xs R1 e1 it q1 => ?_, KS.kx R k⟩
  have k1 := k.gr (R.gr e1)
  refine ⟨fun i m σ' H' => m = xs.length - i ∧ i ≤ xs.length ∧ ∃ own' Γ', Rel F own' Γ' σ' H' ∧ Gr F own H1 own' H' ∧ dForL T body E (xs.drop i) Γ', ⟨xs.length, by simp, Nat.zero_le _, own, Γ, R1, .refl, q1⟩, ?_⟩
  rintro i m σ' H' ⟨rfl, hi, own', Γ', R', g, hl⟩
  obtain ⟨items, stop⟩ := it _ _ H' g g sub_hide sub_hide
  by_cases lt : i < xs.length
  · rw [List.drop_eq_getElem_cons lt] at hl
    obtain ⟨go, yld⟩ := items i xs[i] (List.getElem?_eq_getElem lt)
    unfold dForL at hl
    split at hl
    · rename_i Γ1 eT
      refine .inr ⟨go, fun σ2 H2 => ∃ own2 Γ2, Rel F own2 Γ2 σ2 H2 ∧ Gr F own H1 own2 H2 ∧ dForL T body E (xs.drop (i + 1)) Γ2, fun σ2 H2 ⟨own2, Γ2, R2, g2, q2⟩ => ⟨xs.length - (i + 1), by omega, rfl, lt, own2, Γ2, R2, g2, q2⟩, fun v H2 y => ?_⟩
      have fin : Rel F own' Γ' σ' H2 → Gr F own' H' own' H2 → DqY T.wide (vis F own' H2) v xs[i] → liftG T v σ' H2 fun σ2 H3 => liftS tw W body { Dd with nx := fun σ2 H2 => ∃ own2 Γ2, Rel F own2 Γ2 σ2 H2 ∧ Gr F own H1 own2 H2 ∧ dForL T body E (xs.drop (i + 1)) Γ2, ct := fun σ2 H2 => ∃ own2 Γ2, Rel F own2 Γ2 σ2 H2 ∧ Gr F own H1 own2 H2 ∧ dForL T body E (xs.drop (i + 1)) Γ2, bk := Dd.nx } σ2 H3 := fun R2 g2 r2 => by
        refine ⟨F, own', Γ', _, Γ1, R2, r2, eT, fun vs Rg => ⟨F, _, Γ1, _, ht, Rg, hl, ?_⟩⟩
        have g3 : Gr F own H1 (offAll T.slots own') H2 := (g.trans g2).trans offAll_sub
        exact ⟨fun o2 Γ2 σ2 H3 R3 g4 q => ⟨o2, Γ2, R3, g3.trans g4, q⟩, fun v d o2 Γ2 σ2 H3 R3 g4 r q => k1.rt v d o2 Γ2 σ2 H3 R3 (g3.trans g4) r q, fun o2 Γ2 σ2 H3 R3 g4 q => k1.nx o2 Γ2 σ2 H3 R3 (g3.trans g4) q,
          fun o2 Γ2 σ2 H3 R3 g4 q => ⟨o2, Γ2, R3, g3.trans g4, q⟩, fun c o2 Γ2 σ2 H3 R3 g4 q => k1.ex c o2 Γ2 σ2 H3 R3 (g3.trans g4) q⟩
      rcases yld v H2 y with ⟨rfl, r⟩ | ⟨p, o, n, rfl, r⟩
      · exact fin R' .refl r
      · exact fin (R'.new n) ((ext_new n).vis R'.ok) (r.sub (upd_vis R' n))
    · exact hl.elim
  · have e : i = xs.length := by omega
    subst e
    rw [List.drop_length] at hl
    exact .inl ⟨stop, k1.nx own' Γ' σ' H' R' g hl⟩
theorem vs_for {iter : Expr} {tg : Expr} {di : DI} {T : Tgt} (hp : PassesOwn (model X.prog X.w) X.A X.env X.xe) (hc : X.calm = true) (hi : VI X tw W T.wide tg iter di) (hg : VG X tg T) (hb : VSs X tw W sts t) (hs : ∀ x, foldedSetIterable iter X.env x = pure x := by intro _; rfl) : VS X tw W (.For tg iter sts [] pos) (dFor di T t) :=
  PS.mono (ps_for hp hc hi hg hb hs) fun _ _ _ => for_sim
theorem while_sim {c : DT} {body : DS} {Dd : Ends} {σ : L2.St} {H : Hp} (h : liftS tw W (dWhile c body) Dd σ H) : tWhile (liftT tw W c) (liftS tw W body) Dd σ H := by
  obtain ⟨F, own, Γ, E, ht, R, ⟨n, h⟩, k⟩ := h
  refine ⟨fun m σ' H' => ∃ own' Γ', Rel F own' Γ' σ' H' ∧ Gr F own H own' H' ∧ dWhileN c body E m Γ', ⟨n, own, Γ, R, .refl, h⟩, ?_⟩
  rintro m σ' H' ⟨own', Γ', R', g, hw⟩
  cases m with
  | zero => exact hw.elim
  | succ m =>
    unfold dWhileN at hw
    have k1 := k.gr g
    refine liftT_mk ht R' (KS.kx R' k1) hw fun b H1 R1 e1 q1 => ?_
    cases b with
    | false =>
      rw [if_neg (by decide)] at q1 ⊢
      exact k1.nx own' Γ' σ' H1 R1 (R'.gr e1) q1
    | true =>
      rw [if_pos rfl] at q1 ⊢
      refine ⟨fun σ2 H2 => ∃ own2 Γ2, Rel F own2 Γ2 σ2 H2 ∧ Gr F own H own2 H2 ∧ dWhileN c body E m Γ2, fun σ2 H2 q => ⟨m, Nat.lt_succ_self _, q⟩, F, own', Γ', _, ht, R1, q1, ?_⟩
      have g3 : Gr F own H own' H1 := g.trans (R'.gr e1)
      exact ⟨fun o2 Γ2 σ2 H3 R3 g4 q => ⟨o2, Γ2, R3, g3.trans g4, q⟩, fun v d o2 Γ2 σ2 H3 R3 g4 r q => k.rt v d o2 Γ2 σ2 H3 R3 (g3.trans g4) r q, fun o2 Γ2 σ2 H3 R3 g4 q => k.nx o2 Γ2 σ2 H3 R3 (g3.trans g4) q,
          fun o2 Γ2 σ2 H3 R3 g4 q => ⟨o2, Γ2, R3, g3.trans g4, q⟩, fun c o2 Γ2 σ2 H3 R3 g4 q => k.ex c o2 Γ2 σ2 H3 R3 (g3.trans g4) q⟩
theorem vs_while (hp : PassesOwn (model X.prog X.w) X.A X.env X.xe) (hc : VT X tw W c ta) (hb : VSs X tw W sts t) : VS X tw W (.While c sts [] pos) (dWhile ta t) := PS.mono (ps_while hp hc hb) fun _ _ _ => while_sim
/-! ### a, b = e -/
def dUnp (T : Tgt) (te : DE) : DS := fun E Γ => te Γ (fun x => x.val fun d => match d with
  | .p y => (match dTgt T y Γ with
    | some Γ' => E.nx Γ'
    | none => False)
  | _ => False) (E.ex Γ)
theorem vs_unp {tg : Expr} {T : Tgt} (he : VE X tw W e da) (hg : VG X tg T) (hs : swapsWithSole [tg] e pos.line X.env = pure false := by rfl) (hw : swappedStores [tg] e X.env = pure none := by rfl) (h1 : (assignEach [tg] X.env).map (·.2) = [assign tg X.env] := by rfl) :
    VS X tw W (.Assign [tg] e pos) (dUnp T da) := PS.mono (ps_asg he hg hs hw h1) fun Dd σ H ⟨F, own, Γ, E, ht, R, h, k⟩ => by
  refine lift_mk ht R (KS.kx R k) h fun v H1 x R1 e1 r1 q1 => ?_
  obtain ⟨d, hd, q2, r2⟩ := AV.val_rep r1 q1
  clear hd
  split at q2
  · rename_i y
    split at q2
    · rename_i Γ' eT
      exact ⟨F, own, Γ, y, Γ', R1, .inl r2, eT, fun vs Rg => k.nx _ _ _ _ Rg ((R.gr e1).trans offAll_sub) q2⟩
    · exact q2.elim
  · exact q2.elim
/-! ### a, b = e1, e2: stored one by one -/
def stD : Bool → Nat → AV → List SV → (List SV → Prop) → Prop
  | false, i, x, Γ, Q => x.val fun d => Q (Γ.set i (.d d))
  | true, i, .f d, Γ, Q => Q (Γ.set i (.o d))
  | true, _, _, _, _ => False
def dParGo : List (Bool × Nat × DE) → List SV → List SV → EndsD → Prop
  | [], _, Γ, E => E.nx Γ
  | (k, i, t) :: r, Γ0, Γ, E => t Γ0 (fun x => stD k i x Γ fun Γ' => dParGo r Γ0 Γ' E) (E.ex Γ0)
def dPar (l : List (Bool × Nat × DE)) : DS := fun E Γ => dParGo l Γ Γ E
def tNest (tw : Tw) (W : WX) : List DE → TA
  | [] => tNil
  | t :: ts => tCons (lift tw W t) (tNest tw W ts)
abbrev VP (X : Cx) (tw : Tw) (W : WX) (es : List Expr) (ts : List DE) : Prop := PA X es (tNest tw W ts)
theorem vp_nil : VP X tw W [] [] := pa_nil
theorem vp_cons {ts : List DE} (ha : VE X tw W e da) (hr : VP X tw W es ts) (hs : starEach (e :: es) X.env = (false, eval e X.env) :: starEach es X.env := by rfl) : VP X tw W (e :: es) (da :: ts) := pa_cons ha hr hs
/-- a new thing (new behind H) goes to a slot -/
theorem take_new {F : Frm} {own : Nat → Option Addr} {Γ : List SV} {σ : L2.St} {H H1 : Hp} {i : Nat} {p : Addr} {d : D} (R : Rel F own Γ σ H) (R1 : Rel F own Γ σ H1) (e1 : Ext F H H1) (hb : H p = none) (hx : ¬ XX F own p) (hO : RepO (hide H1 fun a => XX F own a ∨ a = p) H1 p d) :
    ∃ own', Rel F own' (Γ.set i (.o d)) (σ.set i (some (.ref p))) H1 ∧ Gr F own H own' H1 ∧ ∀ a, XX F own' a → XX F own a ∨ a = p := by
  by_cases hi : i < Γ.length
  · have sb : Sub (vis F own H) (hide H1 fun a => XX F own a ∨ a = p) := fun a o e => by
      obtain ⟨e3, e4⟩ := of_hide e
      refine hide_of (e1 a o e3 fun t => e4 (.inl (R.ok.tx a t))) fun z => ?_
      rcases z with z | z
      · exact e4 z
      · rw [z, hb] at e3
        cases e3
    refine ⟨onO own i p, R1.take hi (R.freeT hb) hx hO fun j g hj => ?_, fun a o e => on_sub a o (sb a o e), fun a z => ?_⟩
    · have q := R.sl j g hj
      cases g with
      | un => exact q
      | d y =>
        obtain ⟨h1, v, h2, h3⟩ := q
        exact ⟨h1, v, h2, h3.sub sb⟩
      | o y =>
        obtain ⟨p', h1, h2, h3⟩ := q
        exact ⟨p', h1, h2, h3.sub sb fun u hu => e1 p' u hu (R.notT h1)⟩
    · rcases z with z | ⟨j, z⟩
      · exact .inl (.inl z)
      · unfold onO at z
        split at z
        · cases z
          exact .inr rfl
        · exact .inl (.inr ⟨j, z⟩)
  · refine ⟨own, ?_, e1.vis R.ok, fun a z => .inl z⟩
    rw [List.set_eq_of_length_le (by omega), List.set_eq_of_length_le (by rw [← R.len]; omega)]
    exact R1
def Frm.plus (F : Frm) (p : Addr) (B : Hp) : Frm := ⟨F.tw, fun a => F.X a ∨ a = p, F.H0, B⟩
/-- the frame that hides a new thing besides -/
theorem Rel.plus {F : Frm} {own : Nat → Option Addr} {Γ : List SV} {σ : L2.St} {H H1 B : Hp} {p : Addr} {o : HO} (R : Rel F own Γ σ H) (R1 : Rel F own Γ σ H1) (e1 : Ext F H H1) (hb : H p = none) (hp : H1 p = some o) (hn : notTup o) (hx : ¬ XX F own p) (hB : ∀ a o, B a = some o → ∃ o', H1 a = some o') : Rel (F.plus p B) own Γ σ H1 where
  ok := ⟨fun a t => .inl (R.ok.tx a t), R.ok.st⟩
  ext := R1.ext
  bas := hB
  ti := R1.ti
  x := fun a h => by
    rcases h with h | h
    · exact R1.x a h
    · rw [h]
      exact ⟨o, hp, hn⟩
  len := R1.len
  sl := fun j g hj => by
    have sb : Sub (vis F own H) (vis (F.plus p B) own H1) := fun a o e => by
      obtain ⟨e3, e4⟩ := of_hide e
      refine hide_of (e1 a o e3 fun t => e4 (.inl (R.ok.tx a t))) fun z => ?_
      rcases z with (z | z) | z
      · exact e4 (.inl z)
      · rw [z, hb] at e3
        cases e3
      · exact e4 (.inr z)
    have q := R.sl j g hj
    cases g with
    | un => exact q
    | d y =>
      obtain ⟨h1, v, h2, h3⟩ := q
      exact ⟨h1, v, h2, h3.sub sb⟩
    | o y =>
      obtain ⟨p', h1, h2, h3⟩ := q
      exact ⟨p', h1, h2, h3.sub sb fun u hu => e1 p' u hu (R.notT h1)⟩
  inj := R1.inj
  fr := fun j q h => by
    obtain ⟨h1, h2, h3, h4⟩ := R1.fr j q h
    exact ⟨h1, h2, fun z => z.elim h3 fun z => hx (.inr ⟨j, by rw [← z]; exact h⟩), h4⟩
end
end WL

set_option maxRecDepth 100000
set_option maxHeartbeats 1000000
namespace WL
open PySem PySem.Spec PyProof.Rows L2
section
variable {tw : Tw} {W : WX}
theorem Rel.less {F : Frm} {Y : Addr → Prop} {B : Hp} {own : Nat → Option Addr} {Γ : List SV} {σ : L2.St} {H : Hp} (R : Rel ⟨F.tw, Y, F.H0, B⟩ own Γ σ H) (ok : F.Ok) (h : ∀ a, F.X a → Y a) (hB : ∀ a o, F.B a = some o → ∃ o', H a = some o') : Rel F own Γ σ H where
  ok := ok
  ext := R.ext
  bas := hB
  ti := R.ti
  x := fun a e => R.x a (h a e)
  len := R.len
  sl := fun i g hg => SlOk.sub (fun a o e => by
    obtain ⟨e1, e2⟩ := of_hide e
    exact hide_of e1 fun z => e2 (z.elim (fun z => .inl (h a z)) .inr)) (R.sl i g hg)
  inj := R.inj
  fr := fun i p e => by
    obtain ⟨h1, h2, h3, h4⟩ := R.fr i p e
    exact ⟨h1, h2, fun z => h3 (h p z), h4⟩
theorem par_sim : ∀ (l : List (Bool × Nat × DE)) (F : Frm) (Y : Addr → Prop) (B : Hp) (own own' : Nat → Option Addr) (Γ0 Γ : List SV) (σ σ' : L2.St) (H : Hp) (E : EndsD) (Q : List V → Hp → Prop), F.tw = tw → Rel ⟨F.tw, Y, F.H0, B⟩ own Γ0 σ H → Rel F own' Γ σ' H →
    (∀ a, F.X a → Y a) → (∀ a, XX F own' a → XX ⟨F.tw, Y, F.H0, B⟩ own a) → (∀ c H', Rel F own Γ0 σ H' → Gr F own H own H' → E.ex Γ0 c → W c none σ H') → dParGo l Γ0 Γ E →
    (∀ own2 Γ2 vs H2, vs.length = l.length → Rel F own2 Γ2 (setV (l.map fun z => z.2.1) vs σ') H2 → Gr F own' H own2 H2 → E.nx Γ2 → Q vs H2) → tNest tw W (l.map fun z => z.2.2) σ H Q
  | [], F, Y, B, own, own', Γ0, Γ, σ, σ', H, E, Q, ht, RA, RB, hY, hX, kx, h, k => k own' Γ [] H rfl RB .refl h
  | (kd, i, t) :: r, F, Y, B, own, own', Γ0, Γ, σ, σ', H, E, Q, ht, RA, RB, hY, hX, kx, h, k => by
    have fb : ∀ {H1 : Hp}, Ext F H H1 → (∀ a, F.tw.T a → ∃ o, H1 a = some o ∧ notTup o) → ∀ a o, F.B a = some o → ∃ o', H1 a = some o' := fun {H1} e1 ex a o e => by
      obtain ⟨o', q⟩ := RB.bas a o e
      by_cases tt : F.tw.T a
      · obtain ⟨o2, q2, _⟩ := ex a tt
        exact ⟨o2, q2⟩
      · exact ⟨o', e1 a o' q tt⟩
    refine lift_mk (F := ⟨F.tw, Y, F.H0, H⟩) ht RA.here (fun c H' R' e' qe => kx c H' (R'.less RB.ok hY (fb e' fun a t => R'.x a (hY a (RB.ok.tx a t)))) ?_ qe) h fun v H1 x R1 e1 r1 q1 => ?_
    · exact Ext.vis (F := F) RB.ok e'
    have xt : ∀ a, F.tw.T a → ∃ o, H1 a = some o ∧ notTup o := fun a t => R1.x a (hY a (RB.ok.tx a t))
    have RB1 : Rel F own' Γ σ' H1 := RB.to e1 R1.ti xt
    have kx1 : ∀ c H', Rel F own Γ0 σ H' → Gr F own H1 own H' → E.ex Γ0 c → W c none σ H' := fun c H' R' g' qe => kx c H' R' (Gr.trans (Ext.vis (F := F) RB.ok e1) g') qe
    have g1 : Gr F own' H own' H1 := RB.gr e1
    show tNest tw W (r.map fun z => z.2.2) σ H1 fun vs H2 => Q (v :: vs) H2
    cases kd with
    | false =>
      obtain ⟨d, _, q2, r2⟩ := AV.val_rep r1 q1
      have sb : Sub (vis ⟨F.tw, Y, F.H0, H⟩ own H1) (vis F own' H1) := fun a o e => by
        obtain ⟨e3, e4⟩ := of_hide e
        exact hide_of e3 fun z => e4 (hX a z)
      refine par_sim r F Y H own (offO own' i) Γ0 (Γ.set i (.d d)) σ (σ'.set i (some v)) H1 E _ ht R1 (RB1.set' (r2.sub sb)) hY (fun a z => hX a ?_) kx1 q2 fun own2 Γ2 vs H2 hl R2 g2 q => k own2 Γ2 (v :: vs) H2 (by simp [hl]) R2 ((g1.trans off_sub).trans g2) q
      rcases z with z | ⟨j, z⟩
      · exact .inl z
      · unfold offO at z
        split at z
        · cases z
        · exact .inr ⟨j, z⟩
    | true =>
      cases x with
      | c y => exact False.elim q1
      | b y => exact False.elim q1
      | f d =>
        obtain ⟨p, rfl, hb, hx, hO⟩ := r1
        have hb : H p = none := hb
        have hx' : ¬ XX F own' p := fun z => hx (hX p z)
        obtain ⟨own2, R2, g2, x2⟩ := take_new (i := i) RB RB1 e1 hb hx' (hO.sub (fun a o e => by
          obtain ⟨e3, e4⟩ := of_hide e
          exact hide_of e3 fun z => e4 (z.elim (fun z => .inl (hX a z)) .inr)) fun o e => e)
        obtain ⟨o, ho, hn⟩ := hO.at
        have RP : Rel ⟨F.tw, fun a => Y a ∨ a = p, F.H0, H⟩ own Γ0 σ H1 := Rel.plus (F := ⟨F.tw, Y, F.H0, H⟩) RA.here R1 e1 hb ho hn hx R1.bas
        refine par_sim r F (fun a => Y a ∨ a = p) H own own2 Γ0 _ σ _ H1 E _ ht RP R2 (fun a z => .inl (hY a z)) (fun a z => ?_) kx1 q1 fun own3 Γ3 vs H2 hl R3 g3 q => k own3 Γ3 (.ref p :: vs) H2 (by simp [hl]) R3 (g2.trans g3) q
        rcases x2 a z with z | z
        · rcases hX a z with z | z
          · exact .inl (.inl z)
          · exact .inr z
        · exact .inl (.inr z)
end
section
variable {X : Cx} {tw : Tw} {W : WX} {a b c : Expr} {da db dc : DE} {pos : Pos}
theorem par_fin {l : List (Bool × Nat × DE)} {Dd : Ends} {σ : L2.St} {H : Hp} (h : liftS tw W (dPar l) Dd σ H) : tNest tw W (l.map fun z => z.2.2) σ H fun vs H2 => vs.length = l.length ∧ Dd.nx (setV (l.map fun z => z.2.1) vs σ) H2 := by
  obtain ⟨F, own, Γ, E, ht, R, h, k⟩ := h
  exact par_sim l F F.X F.B own own Γ Γ σ σ H E _ ht R R (fun _ z => z) (fun _ z => z) (fun c H' R' g q => k.ex c own Γ σ H' R' g q) h fun own2 Γ2 vs H2 hl R2 g2 q => ⟨hl, k.nx own2 Γ2 _ H2 R2 g2 q⟩
theorem PA.mono' {X : Cx} {es : List Expr} {t t' : TA} (h : PA X es t) (m : ∀ σ H Q, t' σ H Q → t σ H Q) : PA X es t' := PA.mono h m
/-- a, b = e1, e2 -/
theorem vs_par2 {i j : Nat} {x y : Str} {px py pt : Pos} {kt k2 pt2} (k1 k2' : Bool) (hc : X.calm = true) (hN : X.N.Nodup) (hi : X.N[i]? = some x) (hj : X.N[j]? = some y) (hij : i ≠ j)
    (hx : X.env.scope.names.lookup x = some .local) (hy : X.env.scope.names.lookup y = some .local) (ha : VP X tw W [a, b] [da, db])
    (hw : swappedStores [.Tuple [.Name x px, .Name y py] kt pt] (.Tuple [a, b] k2 pt2) X.env = pure (some [x, y]))
    (hs : swapsWithSole [.Tuple [.Name x px, .Name y py] kt pt] (.Tuple [a, b] k2 pt2) pos.line X.env = pure false := by rfl) :
    VS X tw W (.Assign [.Tuple [.Name x px, .Name y py] kt pt] (.Tuple [a, b] k2 pt2) pos) (dPar [(k1, i, da), (k2', j, db)]) :=
  PS.mono (ps_par hc hN hi hj hij hx hy ha hw hs) fun Dd σ H h => by
    have q := par_fin h
    show tNest tw W [da, db] σ H fun vs H1 => ∃ v w, vs = [v, w] ∧ Dd.nx ((σ.set i (some v)).set j (some w)) H1
    have e : (fun (vs : List V) (H1 : Hp) => ∃ v w, vs = [v, w] ∧ Dd.nx ((σ.set i (some v)).set j (some w)) H1) = fun vs H2 => vs.length = 2 ∧ Dd.nx (setV [i, j] vs σ) H2 := by
      funext vs H1
      apply propext
      constructor
      · rintro ⟨v, w, rfl, q⟩
        exact ⟨rfl, q⟩
      · rintro ⟨hl, q⟩
        match vs, hl with
        | [v, w], _ => exact ⟨v, w, rfl, q⟩
    rw [e]
    exact q
/-- a, b, c = e1, e2, e3 -/
theorem vs_par3 {i j l : Nat} {x y z : Str} {px py pz pt : Pos} {kt k2 pt2} (k1 k2' k3 : Bool) (hc : X.calm = true) (hN : X.N.Nodup) (hi : X.N[i]? = some x) (hj : X.N[j]? = some y) (hl : X.N[l]? = some z) (hij : i ≠ j) (hil : i ≠ l) (hjl : j ≠ l)
    (hx : X.env.scope.names.lookup x = some .local) (hy : X.env.scope.names.lookup y = some .local) (hz : X.env.scope.names.lookup z = some .local) (ha : VP X tw W [a, b, c] [da, db, dc])
    (hw : swappedStores [.Tuple [.Name x px, .Name y py, .Name z pz] kt pt] (.Tuple [a, b, c] k2 pt2) X.env = pure (some [x, y, z]))
    (hs : swapsWithSole [.Tuple [.Name x px, .Name y py, .Name z pz] kt pt] (.Tuple [a, b, c] k2 pt2) pos.line X.env = pure false := by rfl) :
    VS X tw W (.Assign [.Tuple [.Name x px, .Name y py, .Name z pz] kt pt] (.Tuple [a, b, c] k2 pt2) pos) (dPar [(k1, i, da), (k2', j, db), (k3, l, dc)]) := by
  refine ⟨fun pins s σ H Dd I h => ?_⟩
  rw [exec_Assign_arm]
  refine wpAny_bind (wpAny_standAt ?_)
  rw [hs]
  refine wpAny_bind (wpAny_pure ?_)
  rw [if_neg (by decide)]
  refine wpAny_bind (Tuple_ (thn (ha.run _ pins s σ H _ I (par_fin h)) fun us s1 ⟨vs, H1, I1, r1, q1⟩ => ?_))
  obtain ⟨hl3, q1⟩ := q1
  obtain ⟨v, w, v3, rfl⟩ : ∃ v w v3, vs = [v, w, v3] := by
    match vs, hl3 with
    | [v, w, v3], _ => exact ⟨v, w, v3, rfl⟩
  obtain ⟨u1, u2, u3, rfl, rv, rw', r3⟩ : ∃ u1 u2 u3, us = [u1, u2, u3] ∧ RelV v u1 ∧ RelV w u2 ∧ RelV v3 u3 := by
    cases r1 with
    | cons p q =>
      cases q with
      | cons p' q' =>
        cases q' with
        | cons p2 q2 =>
          cases q2
          exact ⟨_, _, _, rfl, p, p', p2⟩
  refine wpAny_newObj_type ?_ (by show 3 ≤ sizeLine; decide)
  have I2 : Inv X pins σ H1 { s1 with heap := s1.heap.push { cls := .type "tuple", data := .seq [u1, u2, u3].toArray } } := I1.kept (t' := s1.toks) fun b o e => Heap.get?_push_of_some _ e
  rw [hw]
  refine wpAny_bind (wpAny_pure ?_)
  show wpAny (model X.prog X.w) X.A (do rule "assign.swapped-stores"; let items ← unpackItems (.ref s1.heap.objs.size) 3 none; assignInOrder [fun v => bindName X.env z v, fun v => bindName X.env y v, fun v => bindName X.env x v] items.reverse; pure Flow.next) _ _ _
  refine wpAny_bind (wpAny_rule (wpAny_bind (unpackItems_tuple (items := #[u1, u2, u3]) (I.ok.hd hc) (IsTup.new s1.heap _) fun h' hx' => ?_)))
  have I3 := I2.kept (h' := h') (t' := s1.toks) fun b o e => hx' b o (Nat.ne_of_lt (Heap.lt_size e)) e
  show wpAny _ _ (assignInOrder [fun v => bindName X.env z v, fun v => bindName X.env y v, fun v => bindName X.env x v] [u3, u2, u1] >>= fun _ => pure Flow.next) _ _ _
  refine wpAny_bind (assignInOrder_cons (wpAny_bindName (store_ok I3 hN hl (.inl hz) r3 (fun s2 I4 => ?_) (.inr hz))))
  refine assignInOrder_cons (wpAny_bindName (store_ok I4 hN hj (.inl hy) rw' (fun s3 I5 => ?_) (.inr hy)))
  refine assignInOrder_cons (wpAny_bindName (store_ok I5 hN hi (.inl hx) rv (fun s4 I6 => assignInOrder_nil (wpAny_pure ?_)) (.inr hx)))
  have e1 : ((σ.set l (some v3)).set j (some w)).set i (some v) = ((σ.set i (some v)).set j (some w)).set l (some v3) := by
    rw [show (σ.set l (some v3)).set j (some w) = (σ.set j (some w)).set l (some v3) from List.set_comm _ _ (Ne.symm hjl),
      show ((σ.set j (some w)).set l (some v3)).set i (some v) = ((σ.set j (some w)).set i (some v)).set l (some v3) from List.set_comm _ _ (Ne.symm hil),
      show (σ.set j (some w)).set i (some v) = (σ.set i (some v)).set j (some w) from List.set_comm _ _ (Ne.symm hij)]
  rw [e1] at I6
  exact ⟨_, H1, I6, q1⟩
end
end WL

set_option maxRecDepth 100000
set_option maxHeartbeats 1000000
namespace WL
open PySem PySem.Spec PyProof.Rows L2
/-! ### comprehensions -/
def wipeD (Γ : List SV) : List Nat → List SV
  | [] => Γ
  | v :: vs => (wipeD Γ vs).set v .un
def noOwn (Γ : List SV) (vs : List Nat) : Bool := vs.all fun v => match Γ[v]? with
  | some (.o _) => false
  | _ => true
def dLcL (T : Tgt) (tt : DT) (te : DE) (Γ : List SV) (P : List PyData → Prop) : List PyData → List PyData → Prop
  | [], ys => P ys
  | x :: xs, ys => match dTgt T x Γ with
    | some Γ2 => tt Γ2 (fun b => if b = true then te Γ2 (fun y => y.dat fun d => ys.length < 100000 ∧ dLcL T tt te Γ P xs (ys ++ [d])) (fun _ => False) else dLcL T tt te Γ P xs ys) (fun _ => False)
    | none => False
def dLc (di : DI) (T : Tgt) (tt : DT) (te : DE) (vs : List Nat) : DE := fun Γ Q Ed => noOwn Γ vs = true ∧ di Γ (fun xs => dLcL T tt te (wipeD Γ vs) (fun ys => Q (.f (.p (.list ys)))) xs []) Ed
section
variable {F : Frm} {own : Nat → Option Addr} {Γ : List SV} {σ : L2.St} {H : Hp}
theorem Rel.ownNone (R : Rel F own Γ σ H) {v : Nat} (h : (match Γ[v]? with | some (.o _) => false | _ => true) = true) : own v = none := by
  cases e : Γ[v]? with
  | none =>
    refine R.none_out fun hi => ?_
    rw [List.getElem?_eq_getElem hi] at e
    cases e
  | some g =>
    have q := R.sl v g e
    cases g with
    | un => exact q
    | d y => exact q.1
    | o y =>
      rw [e] at h
      cases h
theorem wipeD_length : ∀ vs : List Nat, (wipeD Γ vs).length = Γ.length
  | [] => rfl
  | v :: vs => by unfold wipeD; rw [List.length_set, wipeD_length vs]
theorem Rel.set1 (R : Rel F own Γ σ H) {v : Nat} (hv : own v = none) : Rel F own (Γ.set v .un) (σ.set v none) H where
  ok := R.ok
  ext := R.ext
  bas := R.bas
  ti := R.ti
  x := R.x
  len := by rw [List.length_set, List.length_set]; exact R.len
  sl := fun j g hj => by
    by_cases e : j = v
    · subst e
      by_cases hi : j < Γ.length
      · rw [List.getElem?_set_self hi] at hj
        cases hj
        exact hv
      · rw [List.getElem?_eq_none (by rw [List.length_set]; omega)] at hj
        cases hj
    · rw [List.getElem?_set_ne (Ne.symm e)] at hj
      rw [List.getElem?_set_ne (Ne.symm e)]
      exact R.sl j g hj
  inj := R.inj
  fr := fun i p h => by
    obtain ⟨h1, h2⟩ := R.fr i p h
    exact ⟨by rw [List.length_set]; exact h1, h2⟩
theorem Rel.wipe (R : Rel F own Γ σ H) : ∀ {vs : List Nat}, (∀ v ∈ vs, own v = none) → Rel F own (wipeD Γ vs) (L2.wipe σ vs) H
  | [], _ => R
  | v :: vs, h => (Rel.wipe R fun u hu => h u (List.mem_cons_of_mem _ hu)).set1 (h v List.mem_cons_self)
/-- a hidden place of the frame is written -/
theorem Rel.writeX (R : Rel F own Γ σ H) {p : Addr} {o : HO} (hx : F.X p) (nt : ¬ F.tw.T p) (h0 : F.H0 p = none) (ho : notTup o) : Rel F own Γ σ (upd H p o) := by
  have np : ∀ a, ¬ XX F own a → a ≠ p := fun a n e => n (.inl (by rw [e]; exact hx))
  have s1 : Sub (vis F own H) (vis F own (upd H p o)) := fun a u e => by
    obtain ⟨e1, e2⟩ := of_hide e
    exact hide_of (by rw [upd_ne (np a e2)]; exact e1) e2
  refine ⟨R.ok, fun a u e n => ?_, fun a u e => ?_, R.ok.st H _ (fun a t => upd_ne fun z => nt (by rw [← z]; exact t)) (fun a q z => by obtain ⟨o0, hp, hn⟩ := R.x p hx; rw [upd_ne (fun e => hn.code (Option.some.inj ((hp.symm.trans (by rw [← e])).trans z)))]; exact z) R.ti, fun a e => ?_, R.len, fun j g hj => ?_, R.inj, fun j q e => ?_⟩
  · rw [upd_ne (fun z => by rw [z, h0] at e; cases e)]
    exact R.ext a u e n
  · obtain ⟨u', q⟩ := R.bas a u e
    by_cases z : a = p
    · rw [z]
      exact ⟨o, upd_same⟩
    · exact ⟨u', by rw [upd_ne z]; exact q⟩
  · by_cases z : a = p
    · rw [z]
      exact ⟨o, upd_same, ho⟩
    · rw [upd_ne z]
      exact R.x a e
  · have q := R.sl j g hj
    cases g with
    | un => exact q
    | d y =>
      obtain ⟨h1, v, h2, h3⟩ := q
      exact ⟨h1, v, h2, h3.sub s1⟩
    | o y =>
      obtain ⟨p', h1, h2, h3⟩ := q
      have ne : p' ≠ p := fun z => (R.fr j p' h1).2.2.1 (by rw [z]; exact hx)
      exact ⟨p', h1, h2, h3.sub s1 fun u hu => by rw [upd_ne ne]; exact hu⟩
  · obtain ⟨h1, h2, h3, u, h4, h5⟩ := R.fr j q e
    exact ⟨h1, h2, h3, u, by rw [upd_ne (fun z => h3 (by rw [z]; exact hx))]; exact h4, h5⟩
end
theorem wipe_setV {vs : List Nat} : ∀ {is : List Nat} {ws : List V} {σ : L2.St}, (∀ i ∈ is, i ∈ vs) → L2.wipe (setV is ws σ) vs = L2.wipe σ vs
  | [], _, _, _ => by unfold setV; rfl
  | i :: is, [], _, _ => by unfold setV; rfl
  | i :: is, w :: ws, σ, h => by
    unfold setV
    rw [wipe_setV (is := is) fun j hj => h j (List.mem_cons_of_mem _ hj)]
    have one : ∀ (vs : List Nat), i ∈ vs → L2.wipe (σ.set i (some w)) vs = L2.wipe σ vs := by
      have step : ∀ (vs : List Nat), L2.wipe (σ.set i (some w)) vs = if i ∈ vs then L2.wipe σ vs else (L2.wipe σ vs).set i (some w) := by
        intro vs
        induction vs with
        | nil => simp [L2.wipe]
        | cons v vs ih =>
          unfold L2.wipe
          rw [ih]
          by_cases h1 : i ∈ vs
          · rw [if_pos h1, if_pos (List.mem_cons_of_mem _ h1)]
          · rw [if_neg h1]
            by_cases h2 : i = v
            · subst h2
              rw [if_pos List.mem_cons_self, List.set_set]
            · rw [if_neg (by simp [h1, h2]), List.set_comm _ _ h2]
      intro vs hv
      rw [step vs, if_pos hv]
    exact one vs (h i List.mem_cons_self)
theorem wipeD_none {Γ : List SV} {own : Nat → Option Addr} {F : Frm} {σ : L2.St} {H : Hp} (R : Rel F own Γ σ H) {vs : List Nat} (h : noOwn Γ vs = true) : ∀ v ∈ vs, own v = none := fun v hv => R.ownNone (List.all_eq_true.mp h v hv)
section
variable {tw : Tw} {W : WX}
theorem lc_sim {di : DI} {T : Tgt} {tt : DT} {te : DE} {vs : List Nat} {σ : L2.St} {H : Hp} {Q : VK} (hT : ∀ i ∈ T.slots, i ∈ vs) (h : lift tw W (dLc di T tt te vs) σ H Q) : tLc (liftJ tw W T.wide di) (liftG T) (liftT tw (fun _ _ _ _ => False) tt) (lift tw (fun _ _ _ _ => False) te) vs σ H Q := by
  obtain ⟨F, own, Γ, Qd, Ed, ht, R, ⟨hno, h⟩, k, kx⟩ := h
  refine ⟨F, own, Γ, _, _, ht, R, h, fun J H1 xs R1 e1 it q1 => fun Dn nD => ?_, kx⟩
  have ovs := wipeD_none R1 hno
  -- the frame in which the block runs: the new list is hidden
  have nX : ¬ XX F own Dn := R1.free nD
  have nT : ¬ F.tw.T Dn := fun t => nX (.inl (R1.ok.tx Dn t))
  have R0 : Rel (F.plus Dn F.B) own Γ σ (upd H1 Dn (.lst [])) := Rel.plus R1 (R1.new nD) (ext_new nD) nD upd_same trivial nX (R1.new nD).bas
  have RW := R0.wipe ovs
  have fx : ∀ a, XX (F.plus Dn F.B) own a ↔ XX F own a ∨ a = Dn := fun a => by
    constructor
    · rintro ((z | z) | z)
      · exact .inl (.inl z)
      · exact .inr z
      · exact .inl (.inr z)
    · rintro ((z | z) | z)
      · exact .inl (.inl z)
      · exact .inr z
      · exact .inl (.inr z)
  refine ⟨fun i m H' => m = xs.length - i ∧ i ≤ xs.length ∧ ∃ acc ys, H' Dn = some (.lst acc) ∧ DqA (vis (F.plus Dn F.B) own H') acc ys ∧ Rel (F.plus Dn F.B) own (wipeD Γ vs) (L2.wipe σ vs) H' ∧ Ext F H1 H' ∧ dLcL T tt te (wipeD Γ vs) (fun ys => Qd (.f (.p (.list ys)))) (xs.drop i) ys,
    ⟨xs.length, by simp, Nat.zero_le _, [], [], upd_same, .nil, RW, ext_new nD, q1⟩, ?_⟩
  rintro i m H' ⟨rfl, hi, acc, ys, hD, ha, R', eE, hl⟩
  have visub : Sub (vis F own H1) (vis (F.plus Dn F.B) own H') := fun a o e => by
    obtain ⟨e3, e4⟩ := of_hide e
    refine hide_of (eE a o e3 fun t => e4 (.inl (R1.ok.tx a t))) fun z => ?_
    rcases (fx a).mp z with z | z
    · exact e4 z
    · rw [z, nD] at e3
      cases e3
  have tsub : Sub (hide H1 F.tw.T) (hide H' F.tw.T) := fun a o e => by
    obtain ⟨e3, e4⟩ := of_hide e
    exact hide_of (eE a o e3 e4) e4
  obtain ⟨items, stop⟩ := it _ _ H' visub tsub sub_hide sub_hide
  by_cases lt : i < xs.length
  · rw [List.drop_eq_getElem_cons lt] at hl
    obtain ⟨go, yld⟩ := items i xs[i] (List.getElem?_eq_getElem lt)
    unfold dLcL at hl
    split at hl
    · rename_i Γ2 eT
      refine .inr ⟨go, fun H2 => ∃ acc ys, H2 Dn = some (.lst acc) ∧ DqA (vis (F.plus Dn F.B) own H2) acc ys ∧ Rel (F.plus Dn F.B) own (wipeD Γ vs) (L2.wipe σ vs) H2 ∧ Ext F H1 H2 ∧ dLcL T tt te (wipeD Γ vs) (fun ys => Qd (.f (.p (.list ys)))) (xs.drop (i + 1)) ys,
        fun H2 ⟨acc, ys, a1, a2, a3, a4, a5⟩ => ⟨xs.length - (i + 1), by omega, rfl, lt, acc, ys, a1, a2, a3, a4, a5⟩, fun v H2 y => ?_⟩
      have fin : Rel (F.plus Dn F.B) own (wipeD Γ vs) (L2.wipe σ vs) H2 → Ext F H' H2 → DqY T.wide (vis (F.plus Dn F.B) own H2) v xs[i] → liftG T v (L2.wipe σ vs) H2 fun σ2 H2 => L2.wipe σ2 vs = L2.wipe σ vs ∧ liftT tw (fun _ _ _ _ => False) tt σ2 H2 fun b H3 =>
          if b = true then lift tw (fun _ _ _ _ => False) te σ2 H3 fun y H4 => ∃ acc, H4 Dn = some (.lst acc) ∧ acc.length < sizeLine ∧ (fun H2 => ∃ acc ys, H2 Dn = some (.lst acc) ∧ DqA (vis (F.plus Dn F.B) own H2) acc ys ∧ Rel (F.plus Dn F.B) own (wipeD Γ vs) (L2.wipe σ vs) H2 ∧ Ext F H1 H2 ∧ dLcL T tt te (wipeD Γ vs) (fun ys => Qd (.f (.p (.list ys)))) (xs.drop (i + 1)) ys) (upd H4 Dn (.lst (acc ++ [y])))
          else (fun H2 => ∃ acc ys, H2 Dn = some (.lst acc) ∧ DqA (vis (F.plus Dn F.B) own H2) acc ys ∧ Rel (F.plus Dn F.B) own (wipeD Γ vs) (L2.wipe σ vs) H2 ∧ Ext F H1 H2 ∧ dLcL T tt te (wipeD Γ vs) (fun ys => Qd (.f (.p (.list ys)))) (xs.drop (i + 1)) ys) H3 := fun R2 e2 r2 => by
        have offn : offAll T.slots own = own := offAll_none fun j hj => ovs j (hT j hj)
        refine ⟨F.plus Dn F.B, own, _, _, Γ2, R2, r2, eT, fun ws Rg => ⟨?_, ?_⟩⟩
        · rw [wipe_setV hT]
          exact wipe_wipe
        rw [offn] at Rg
        refine liftT_mk (F := F.plus Dn F.B) ht Rg (fun _ _ _ _ z => z.elim) hl fun b H3 R3 e3 q3 => ?_
        have e23 : Ext F H' H3 := e2.trans e3
        have hD3 : H3 Dn = some (.lst acc) := e23 Dn _ hD nT
        have sb3 : Sub (vis (F.plus Dn F.B) own H') (vis (F.plus Dn F.B) own H3) := Ext.vis (F := F.plus Dn F.B) R'.ok e23
        have back : ∀ {H4 : Hp}, Rel (F.plus Dn F.B) own Γ2 (setV T.slots ws (L2.wipe σ vs)) H4 → Ext F H3 H4 → Rel (F.plus Dn F.B) own (wipeD Γ vs) (L2.wipe σ vs) H4 := fun {H4} R4 e4 => R'.to (F := F.plus Dn F.B) (Ext.trans (F := F.plus Dn F.B) e23 e4) R4.ti fun a t => R4.x a (R4.ok.tx a t)
        cases b with
        | false =>
          rw [if_neg (by decide)] at q3 ⊢
          exact ⟨acc, ys, hD3, dqA_sub sb3 _ _ ha, back R3 .refl, eE.trans e23, q3⟩
        | true =>
          rw [if_pos rfl] at q3 ⊢
          refine lift_mk (F := F.plus Dn F.B) ht R3 (fun _ _ _ _ z => z.elim) q3 fun y H4 ay R4 e4 r4 q4 => ?_
          obtain ⟨d, ⟨hlt, q5⟩, rd, _⟩ := AV.dat_rep r4 q4
          have hD4 : H4 Dn = some (.lst acc) := e4 Dn _ hD3 nT
          refine ⟨acc, hD4, by rw [ha.length, sizeLine_eq]; omega, acc ++ [y], ys ++ [d], upd_same, ?_, ?_, ?_, q5⟩
          · have sb4 : Sub (vis (F.plus Dn F.B) own H4) (vis (F.plus Dn F.B) own (upd H4 Dn (.lst (acc ++ [y])))) := fun a o e => by
              obtain ⟨e5, e6⟩ := of_hide e
              exact hide_of (by rw [upd_ne (fun z => e6 ((fx a).mpr (.inr z)))]; exact e5) e6
            exact (dqA_sub (fun a o e => sb4 a o (Ext.vis (F := F.plus Dn F.B) R3.ok e4 a o (sb3 a o e))) _ _ ha).append (.cons (dq_sub sb4 _ _ rd) .nil)
          · exact (back R4 e4).writeX (.inr rfl) nT (R1.freeT nD) trivial
          · exact fun a o e n => by
              rw [upd_ne (ne_of_none e nD)]
              exact ((eE.trans e23).trans e4) a o e n
      rcases yld v H2 y with ⟨rfl, r⟩ | ⟨p, o, n, rfl, r⟩
      · exact fin R' .refl r
      · exact fin (R'.new n) (ext_new n) (r.sub (upd_vis R' n))
    · exact hl.elim
  · have e : i = xs.length := by omega
    subst e
    rw [List.drop_length] at hl
    have R9 : Rel F own Γ σ H' := R1.to eE R'.ti fun a t => R'.x a (.inl (R1.ok.tx a t))
    refine .inl ⟨stop, k _ _ (.f (.p (.list ys))) R9 (e1.trans eE) ⟨Dn, rfl, R1.freeB nD, nX, acc, hD, dqA_sub (fun a o e => ?_) _ _ ha⟩ hl⟩
    obtain ⟨e3, e4⟩ := of_hide e
    exact hide_of e3 fun z => e4 ((fx a).mpr z)
where
  wipe_wipe {σ : L2.St} {vs : List Nat} : L2.wipe (L2.wipe σ vs) vs = L2.wipe σ vs := by
    have one : ∀ (us : List Nat), (∀ u ∈ us, u ∈ vs) → L2.wipe (L2.wipe σ vs) us = L2.wipe σ vs := by
      intro us
      induction us with
      | nil => intro _; rfl
      | cons u us ih =>
        intro h
        show (L2.wipe (L2.wipe σ vs) us).set u none = L2.wipe σ vs
        rw [ih fun v hv => h v (List.mem_cons_of_mem _ hv)]
        have hu := h u List.mem_cons_self
        apply List.ext_getElem?
        intro j
        by_cases e : j = u
        · subst e
          by_cases hl : j < (L2.wipe σ vs).length
          · rw [List.getElem?_set_self hl]
            cases q : (L2.wipe σ vs)[j]? with
            | none => rw [List.getElem?_eq_getElem hl] at q; cases q
            | some z =>
              cases z with
              | none => rfl
              | some z => exact absurd hu (L2.wipe_some q).2
          · rw [List.getElem?_eq_none (by rw [List.length_set]; omega), List.getElem?_eq_none (by omega)]
        · rw [List.getElem?_set_ne (Ne.symm e)]
    exact one vs fun _ h => h
end
end WL

set_option maxRecDepth 100000
set_option maxHeartbeats 1000000
namespace WL
open PySem PySem.Spec PyProof.Rows L2
/-! ### comprehensions: the rules -/
abbrev W0 : WX := fun _ _ _ _ => False
abbrev VTs (X : Cx) (tw : Tw) (W : WX) (es : List Expr) (t : DT) : Prop := PTs X es (liftT tw W t)
theorem PTs.mono {X : Cx} {es : List Expr} {t t' : TT} (h : PTs X es t) (m : ∀ σ H Q, t' σ H Q → t σ H Q) : PTs X es t' := ⟨fun pins s σ H Q I q => h.run pins s σ H Q I (m σ H Q q)⟩
def dYes : DT := fun _ Q _ => Q true
theorem vts_nil {X : Cx} {tw : Tw} {W : WX} : VTs X tw W [] dYes := PTs.mono pts_nil fun σ H Q ⟨F, own, Γ, Qd, Ed, ht, R, h, k, kx⟩ => k true H R .refl h
theorem vts_one {X : Cx} {tw : Tw} {W : WX} {c : Expr} {t : DT} (h : VT X tw W c t) : VTs X tw W [c] t := pts_one h
section
variable {X : Cx} {tw : Tw} {W : WX} {elt tg iter : Expr} {ifs : List Expr} {scope : Scope} {own : List (Str × Nat)} {pos : Pos} {di : DI} {T : Tgt} {tt : DT} {te : DE}
theorem ve_lc (hc : X.calm = true) (hN : X.N.Nodup) (ok : BlkOk X.N X.env.scope scope own) (hT : ∀ i ∈ T.slots, i ∈ own.map (·.2)) (hi : VJ X tw W T.wide tg iter di)
    (hb : ∀ (s : Shared) (H : Hp) (C : Addr) (cl : List (Str × Addr)) (fp : List Addr), VG (X.blk s H scope (compEnvC scope cl C X.env) fp) tg T ∧ VTs (X.blk s H scope (compEnvC scope cl C X.env) fp) tw W0 ifs tt ∧ VE (X.blk s H scope (compEnvC scope cl C X.env) fp) tw W0 elt te)
    (hs : ∀ x, foldedSetIterable iter X.env x = pure x := by intro _; rfl) : VE X tw W (.ListComp elt [⟨tg, iter, ifs, 0⟩] scope pos) (dLc di T tt te (own.map (·.2))) :=
  PE.mono (pe_lc hc hN hi ok (fun s H C cl fp => (hb s H C cl fp).1) (fun s H C cl fp => (hb s H C cl fp).2.1) (fun s H C cl fp => (hb s H C cl fp).2.2) hs) fun _ _ _ h => lc_sim hT h
theorem asg_mono {t t' : TE} {g : TG} {Dd : Ends} {σ : L2.St} {H : Hp} (m : ∀ σ H Q, t' σ H Q → t σ H Q) (h : tAsg t' g Dd σ H) : tAsg t g Dd σ H := m σ H _ h
/-- x = [..] on one line -/
theorem vs_setLc {i : Nat} {y : Str} {py spos : Pos} (hc : X.calm = true) (hN : X.N.Nodup) (hy : X.N[i]? = some y) (hyl : X.env.scope.names.lookup y = some .local) (ok : BlkOk X.N X.env.scope scope own) (hT : ∀ i ∈ T.slots, i ∈ own.map (·.2)) (hi : VJ X tw W T.wide tg iter di)
    (hb : ∀ (s : Shared) (H : Hp) (C : Addr) (cl : List (Str × Addr)) (fp : List Addr), VG (X.blk s H scope (compEnvC scope cl C X.env) fp) tg T ∧ VTs (X.blk s H scope (compEnvC scope cl C X.env) fp) tw W0 ifs tt ∧ VE (X.blk s H scope (compEnvC scope cl C X.env) fp) tw W0 elt te)
    (hsw : swapsWith (.ListComp elt [⟨tg, iter, ifs, 0⟩] scope pos) (some (.Name y py)) spos.line X.env = pure true := by rfl)
    (hs : ∀ x, foldedSetIterable iter X.env x = pure x := by intro _; rfl) : VS X tw W (.Assign [.Name y py] (.ListComp elt [⟨tg, iter, ifs, 0⟩] scope pos) spos) (dSet i (dLc di T tt te (own.map (·.2)))) :=
  PS.mono (ps_setLc hc hN hy hyl hsw hi ok (fun s H C cl fp => (hb s H C cl fp).1) (fun s H C cl fp => (hb s H C cl fp).2.1) (fun s H C cl fp => (hb s H C cl fp).2.2) hs) fun _ _ _ h => asg_mono (fun _ _ _ h => lc_sim hT h) (set_sim h)
theorem vs_ownLc {i : Nat} {y : Str} {py spos : Pos} (hc : X.calm = true) (hN : X.N.Nodup) (hy : X.N[i]? = some y) (hyl : X.env.scope.names.lookup y = some .local) (ok : BlkOk X.N X.env.scope scope own) (hT : ∀ i ∈ T.slots, i ∈ own.map (·.2)) (hi : VJ X tw W T.wide tg iter di)
    (hb : ∀ (s : Shared) (H : Hp) (C : Addr) (cl : List (Str × Addr)) (fp : List Addr), VG (X.blk s H scope (compEnvC scope cl C X.env) fp) tg T ∧ VTs (X.blk s H scope (compEnvC scope cl C X.env) fp) tw W0 ifs tt ∧ VE (X.blk s H scope (compEnvC scope cl C X.env) fp) tw W0 elt te)
    (hsw : swapsWith (.ListComp elt [⟨tg, iter, ifs, 0⟩] scope pos) (some (.Name y py)) spos.line X.env = pure true := by rfl)
    (hs : ∀ x, foldedSetIterable iter X.env x = pure x := by intro _; rfl) : VS X tw W (.Assign [.Name y py] (.ListComp elt [⟨tg, iter, ifs, 0⟩] scope pos) spos) (dOwn i (dLc di T tt te (own.map (·.2)))) :=
  PS.mono (ps_setLc hc hN hy hyl hsw hi ok (fun s H C cl fp => (hb s H C cl fp).1) (fun s H C cl fp => (hb s H C cl fp).2.1) (fun s H C cl fp => (hb s H C cl fp).2.2) hs) fun _ _ _ h => asg_mono (fun _ _ _ h => lc_sim hT h) (own_sim h)
end
/-! ### t.count(x) -/
def tCountT (ta tb : TE) : TE := fun σ H Q => ta σ H fun x H1 => ∃ a o vs, x = .ref a ∧ H1 a = some (.frz o (.tup vs)) ∧ o.dict = none ∧ tb σ H1 fun y H2 => ∃ ds d, H2 a = some (.frz o (.tup vs)) ∧ DqA H2 vs ds ∧ Dq H2 y d ∧ PyData.plainAll ds = true ∧ d.plain = true ∧ min (PyData.depthAll ds) d.depth ≤ 60 ∧ Q (.int ((ds.countP fun y => PyData.eqv y d : Nat) : Int)) H2
def dCount (da db : DE) : DE := fun Γ Q Ed => da Γ (fun x => match x.any with
  | .p (.tuple xs) => db Γ (fun y => match y.any with
    | .p d => PyData.plainAll xs = true ∧ d.plain = true ∧ min (PyData.depthAll xs) d.depth ≤ 60 ∧ Q (.c (dI ((xs.countP fun z => PyData.eqv z d : Nat) : Int)))
    | _ => False) Ed
  | _ => False) Ed
section
variable {X : Cx} {tw : Tw} {W : WX} {o e : Expr} {da db : DE} {apos cpos : Pos}
theorem pe_count {ta tb : TE} (hu : X.A.units + 64 < cLine) (ho : PE X o ta) (he : PE X e tb) (hbase : attributeBase o "count" X.env (eval o X.env) = eval o X.env) (hline : (apos.endLine == cpos.line) = true) (htrees : backTo cpos (starEach [e] X.env) = [(false, eval e X.env)]) :
    PE X (.Call (.Attribute o "count" apos) [e] [] cpos) (tCountT ta tb) := by
  refine ⟨fun pins s σ H Q I h => ?_⟩
  refine wpAny_Call_method1_late hbase hline htrees (thn (ho.run pins s σ H _ I h) fun u s1 ⟨x, H1, I1, r1, a, ob, vs, ex, h1, hd, q1⟩ => ?_)
  subst ex
  cases r1
  obtain ⟨hg, hz, its, rv, ob', g1, hc, n, hdat⟩ := (show ObjOk X.prog X.w H1 s1.heap a (.frz ob (.tup vs)) from I1.hok a _ h1)
  refine ⟨"tuple", "tuple.count", PySem.F.plainAttrs_tuple, PySem.F.slot_tuple_count, PySem.F.type_tuple_count, ⟨ob', g1, hc⟩, fun b e => ?_, ?_⟩
  · cases e
    exact ⟨ob, hg, hd⟩
  · refine Calls.callWith_builtin rfl (Calls.evalArgs_plain (Calls.spliced_cons (thn (he.run pins s1 σ H1 _ I1 q1) fun u2 s2 ⟨y, H2, I2, r2, ds, d, h2, hds, hy, p1, p2, p3, q⟩ => Calls.spliced_nil ?_)))
    obtain ⟨_, hz2, its2, rv2, tup2⟩ := (show ObjOk X.prog X.w H2 s2.heap a (.frz ob (.tup vs)) from I2.hok a _ h2)
    obtain ⟨as, r3⟩ := Dp.reads (X := X) I2 d y u2 (dq_dp d _ hy) r2
    obtain ⟨bs, r4⟩ := Dp.readsAll (X := X) I2 ds vs its2 (dqA_dp ds _ hds) rv2
    refine SeqAt.count_tuple_data (vs := its2.toArray) tup2 (xs := ds) (by simpa using r4) r3 p1 p2 (by omega) ⟨.int _, H2, I2.tok _, ⟨_, rfl⟩, q⟩
theorem ve_count {k : Nat} (hr : Room k X.A) (ho : VE X tw W o da) (he : VE X tw W e db) (hbase : attributeBase o "count" X.env (eval o X.env) = eval o X.env := by rfl) (hline : (apos.endLine == cpos.line) = true := by rfl) (htrees : backTo cpos (starEach [e] X.env) = [(false, eval e X.env)] := by rfl) :
    VE X tw W (.Call (.Attribute o "count" apos) [e] [] cpos) (dCount da db) := PE.mono (pe_count hr.units ho he hbase hline htrees) fun σ H Q ⟨F, own, Γ, Qd, Ed, ht, R, h, k, kx⟩ => by
  refine lift_mk ht R kx h fun v H1 x R1 e1 r1 q1 => ?_
  split at q1
  · rename_i xs ex
    obtain ⟨a, ob, vs, rfl, ha, ho, hd⟩ := r1.tup ex
    refine ⟨a, ob, vs, rfl, (of_hide ha).1, ho, lift_mk ht R1 (kx.ext e1) q1 fun u H2 y R2 e2 r2 q2 => ?_⟩
    split at q2
    · rename_i d ed
      have h2 := r2.any
      rw [ed] at h2
      have ha2 := e2.vis R1.ok _ _ ha
      exact ⟨xs, d, (of_hide ha2).1, dqA_sub (fun a o z => (of_hide (e2.vis R1.ok a o z)).1) _ _ hd, h2, q2.1, q2.2.1, q2.2.2.1, (k.ext (e1.trans e2)).dat R2 (.int _) q2.2.2.2⟩
    · exact q2.elim
  · exact q1.elim
end
/-! ### calls with keywords -/
section
variable {X : Cx} {tw : Tw} {W : WX} {e : Expr} {es : List Expr} {kws : List Keyword} {pos p : Pos} {t tk : DA} {da : DE} {dsp : DSp} {k : Nat} {x : Str} {ps ks : List Str} {nm : Option Str} {kpos : Pos}
abbrev VK' (X : Cx) (tw : Tw) (W : WX) (kws : List Keyword) (t : DA) : Prop := PK X kws (liftA tw W t)
theorem PK.mono {X : Cx} {kws : List Keyword} {t t' : TA} (h : PK X kws t) (m : ∀ σ H Q, t' σ H Q → t σ H Q) : PK X kws t' := ⟨fun pos pins s σ H Q I q => h.run pos pins s σ H Q I (m σ H Q q)⟩
theorem vk_nil : VK' X tw W [] dNil := PK.mono pk_nil fun σ H Q ⟨F, own, Γ, Qd, Ed, ht, R, h, k, kx⟩ => k [] H [] R .refl .nil h
theorem vk_cons (ha : VE X tw W e da) (hr : VK' X tw W kws tk) : VK' X tw W (⟨nm, e, kpos⟩ :: kws) (dCons da tk) := PK.mono (pk_cons ha hr) fun σ H Q ⟨F, own, Γ, Qd, Ed, ht, R, h, k, kx⟩ => by
  refine lift_mk ht R kx h fun v H1 x R1 e1 r1 q1 => ?_
  exact liftA_mk ht R1 (kx.ext e1) q1 fun vs H2 xs R2 e2 r2 q2 => k (v :: vs) H2 (x :: xs) R2 (e1.trans e2) (.cons (r1.ext R1 e2) r2) q2
theorem run_fnKS {CX : CXT} {f : Addr} {fd : FuncData} {sp : Sp} {E : L2.St → XK} {n : Nat} {pins : List (Addr × Obj)} {σ : L2.St} {H : Hp} {s : Shared} {Q : VK} {us ws : List Value} {vs zs : List V} (F : FnOk X.prog X.w X.K X.mg X.base CX k f fd ps sp) (hr : Room k X.A)
    (hb : KBn X.K fd ps n (ps.drop n) (fun us ws => us ++ ws) (fun us ws => us ++ ws)) (hx : PassesAt CX X σ (E σ)) (I : Inv X pins σ H s) (r : Vals vs us) (rz : Vals zs ws) (hn : us.length = n) (hw : ws.length = (ps.drop n).length) (h : sp (vs ++ zs) H Q (E σ)) :
    wpAny (model X.prog X.w) X.A (call (.ref f) us ((ps.drop n).zip ws)) (EP X pins σ Q) X.xe s := by
  have r2 := hb.rel r rz
  refine wpAny_call (codeAny_mono (F.run X.A X.stack s H ⟨us, (ps.drop n).zip ws⟩ (us ++ ws) (vs ++ zs) Q (E σ) hr I.env0 (hb.to s us ws I.kIn hn hw) r2 h) fun r s' hq => ?_)
  cases r with
  | error e => exact hx pins H s e s' I hq
  | ok fl =>
    cases fl with
    | ret u => exact I.after hq
    | next => exact False.elim hq
    | brk => exact False.elim hq
    | cont => exact False.elim hq
def dCallK (n m : Nat) (sp : List D → (D → Prop) → (Value → Prop) → Prop) (t tk : DA) : DE := fun Γ Q Ed => t Γ (fun xs => tk Γ (fun ys => xs.length = n ∧ ys.length = m ∧ vals (fun ds => sp ds (fun d => Q (.c d)) Ed) (xs ++ ys)) Ed) Ed
theorem RepAVs.append {F : Frm} {own : Nat → Option Addr} {H : Hp} : ∀ {vs us : List V} {xs ys : List AV}, RepAVs F own H vs xs → RepAVs F own H us ys → RepAVs F own H (vs ++ us) (xs ++ ys)
  | _, _, _, _, .nil, h => h
  | _, _, _, _, .cons r t, h => .cons r (RepAVs.append t h)
def tCallKS (sp : Sp) (E : L2.St → XK) (n m : Nat) (t tk : TA) : TE := fun σ H Q => t σ H fun vs H1 => tk σ H1 fun zs H2 => vs.length = n ∧ zs.length = m ∧ sp (vs ++ zs) H2 Q (E σ)
theorem callK_sim {n m : Nat} {σ : L2.St} {H : Hp} {Q : VK} (h : lift tw W (dCallK n m (dsp tw) t tk) σ H Q) : tCallKS (spOf dsp) (WE W) n m (liftA tw W t) (liftA tw W tk) σ H Q := by
  obtain ⟨F, own, Γ, Qd, Ed, ht, R, h, k, kx⟩ := h
  refine liftA_mk ht R kx h fun vs H1 xs R1 e1 r1 q1 => ?_
  refine liftA_mk ht R1 (kx.ext e1) q1 fun zs H2 ys R2 e2 r2 q2 => ?_
  obtain ⟨ds, q3, r3⟩ := vals_rep ((RepAVs.ext R1 e2 r1).append r2) q2.2.2
  exact ⟨r1.length.trans q2.1, r2.length.trans q2.2.1, call_go ht R2 (k.ext (e1.trans e2)) (kx.ext (e1.trans e2)) r3 q3⟩
/-- f(e, .., k = v, ..) -/
theorem ve_callK {ns : List Nat} (n : Nat) (G : FnV X.prog X.w X.K X.mg X.base k x ps ns dsp) (hn : n ∈ ns) (hr : Room k X.A) (tk' : Takes X W) (hg : Gl X x) (ha : VA X tw W (e :: es) t) (hkw : VK' X tw W kws tk) (hdb : (x == ("__debug__" : Str)) = false := by decide)
    (hks : (backToKw pos (keywordEach kws X.env)).filterMap (·.1) = ps.drop n := by rfl) (hall : (backToKw pos (keywordEach kws X.env)).all (·.1.isSome) = true := by rfl)
    (he : starEach (e :: es) X.env = (false, eval e X.env) :: starEach es X.env := by rfl)
    (hpl : ((backTo pos (starEach (e :: es) X.env)).any (·.1) || (backToKw pos (keywordEach kws X.env)).any (·.1.isNone)) = false := by rfl) :
    VE X tw W (.Call (.Name x p) (e :: es) kws pos) (dCallK n (ps.drop n).length (dsp tw) t tk) := by
  obtain ⟨f, fd, G1, hm, kp, _, b⟩ := G.ex
  refine PE.mono (t := tCallKS (spOf dsp) (WE W) n (ps.drop n).length (liftA tw W t) (liftA tw W tk)) ⟨fun pins s σ H Q I h => ?_⟩ fun _ _ _ => callK_sim
  refine wpAny_Call_Name_kw (ld_glob I hg hm ?_ hdb)
  refine PySem.W.callWith_KW (h₀ := X.base) I.ok.mod.kin kp hall (thn (ha.run pos pins s σ H _ I h) fun us s1 ⟨vs, H1, I1, r, q⟩ => ?_) hpl he
  refine thn (hkw.run pos pins s1 σ H1 _ I1 q) fun ws s2 ⟨zs, H2, I2, rz, l1, l2, q2⟩ => ⟨I2.kIn, ?_⟩
  rw [hks]
  exact run_fnKS G1 hr (b n hn) (passAt tk' σ) I2 r rz (r.length.symm.trans l1) (rz.length.symm.trans l2) q2
/-- f(k = v, ..) -/
theorem ve_callK0 {ns : List Nat} (G : FnV X.prog X.w X.K X.mg X.base k x ps ns dsp) (hn : 0 ∈ ns) (hr : Room k X.A) (tk' : Takes X W) (hg : Gl X x) (hkw : VK' X tw W kws tk) (hdb : (x == ("__debug__" : Str)) = false := by decide)
    (hks : (backToKw pos (keywordEach kws X.env)).filterMap (·.1) = ps := by rfl) (hall : (backToKw pos (keywordEach kws X.env)).all (·.1.isSome) = true := by rfl)
    (hpl : ((backTo pos (starEach [] X.env)).any (·.1) || (backToKw pos (keywordEach kws X.env)).any (·.1.isNone)) = false := by rfl) :
    VE X tw W (.Call (.Name x p) [] kws pos) (dCallK 0 ps.length (dsp tw) dNil tk) := by
  obtain ⟨f, fd, G1, hm, kp, _, b⟩ := G.ex
  refine PE.mono (t := tCallKS (spOf dsp) (WE W) 0 ps.length tNil (liftA tw W tk)) ⟨fun pins s σ H Q I h => ?_⟩ fun σ H Q h => ?_
  · refine wpAny_Call_Name_kw (ld_glob I hg hm ?_ hdb)
    refine PySem.W.callWith_KW0 (h₀ := X.base) I.ok.mod.kin kp hall (thn (hkw.run pos pins s σ H _ I h) fun ws s2 ⟨zs, H2, I2, rz, l1, l2, q2⟩ => ⟨I2.kIn, ?_⟩) hpl
    rw [hks]
    exact run_fnKS (us := []) (vs := []) (n := 0) G1 hr (b 0 hn) (passAt tk' σ) I2 .nil rz rfl (rz.length.symm.trans l2) q2
  · obtain ⟨F, own, Γ, Qd, Ed, ht, R, h, k, kx⟩ := h
    refine liftA_mk ht R kx h fun zs H2 ys R2 e2 r2 q2 => ?_
    obtain ⟨ds, q3, r3⟩ := vals_rep r2 q2.2.2
    exact ⟨rfl, r2.length.trans q2.2.1, call_go ht R2 (k.ext e2) (kx.ext e2) r3 q3⟩
end
end WL

set_option maxRecDepth 100000
set_option maxHeartbeats 1000000
namespace WL
open PySem PySem.Spec PyProof.Rows L2
/-! ### len(set(xs)), tuples of ints -/
def ddp {α : Type} [DecidableEq α] : List α → List α
  | [] => []
  | x :: xs => if x ∈ xs then ddp xs else x :: ddp xs
theorem mem_ddp {α : Type} [DecidableEq α] {x : α} : ∀ {xs : List α}, x ∈ ddp xs ↔ x ∈ xs
  | [] => Iff.rfl
  | y :: xs => by
    unfold ddp
    split
    · rename_i h
      rw [mem_ddp (xs := xs), List.mem_cons]
      exact ⟨.inr, fun z => z.elim (fun e => e ▸ h) id⟩
    · rw [List.mem_cons, List.mem_cons, mem_ddp (xs := xs)]
theorem nodup_ddp {α : Type} [DecidableEq α] : ∀ xs : List α, (ddp xs).Nodup
  | [] => List.nodup_nil
  | y :: xs => by
    unfold ddp
    split
    · exact nodup_ddp xs
    · rename_i h
      exact List.nodup_cons.mpr ⟨fun z => h (mem_ddp.mp z), nodup_ddp xs⟩
theorem nodup_le {α : Type} [DecidableEq α] : ∀ {xs ys : List α}, xs.Nodup → (∀ x ∈ xs, x ∈ ys) → xs.length ≤ ys.length
  | [], _, _, _ => Nat.zero_le _
  | x :: xs, ys, h, s => by
    obtain ⟨h1, h2⟩ := List.nodup_cons.mp h
    have hx := s x List.mem_cons_self
    have := nodup_le (xs := xs) (ys := ys.erase x) h2 fun z hz => (List.mem_erase_of_ne (fun e => h1 (by rw [← e]; exact hz))).mpr (s z (List.mem_cons_of_mem _ hz))
    have hl := List.length_erase_of_mem hx
    have hp : 0 < ys.length := List.length_pos_of_mem hx
    simp only [List.length_cons]
    omega
theorem nodup_len {α : Type} [DecidableEq α] {xs ys : List α} (h1 : xs.Nodup) (h2 : ys.Nodup) (h : ∀ x, x ∈ xs ↔ x ∈ ys) : xs.length = ys.length :=
  Nat.le_antisymm (nodup_le h1 fun x hx => (h x).mp hx) (nodup_le h2 fun x hx => (h x).mpr hx)
def keysD : List PyData → Option (List (List Int))
  | [] => some []
  | .tuple xs :: r => (keyD xs).bind fun k => (keysD r).map (k :: ·)
  | _ :: _ => none
theorem keysD_map {α : Type} (f : α → List Int) : ∀ xs : List α, keysD (xs.map fun x => .tuple ((f x).map PyData.int)) = some (xs.map f)
  | [] => rfl
  | x :: xs => by
    simp only [List.map_cons, keysD, keyD_ints, keysD_map f xs]
    rfl
theorem keysD_rep {I : Hp} : ∀ {ds : List PyData} {vs : List V} {ks : List (List Int)}, DqA I vs ds → keysD ds = some ks → ∃ L : List (Addr × List Int), vs = L.map (fun p => V.ref p.1) ∧ L.map (·.2) = ks ∧ ∀ p ∈ L, ∃ o, I p.1 = some (.frz o (.tup (p.2.map V.int)))
  | [], _, _, .nil, e => by cases e; exact ⟨[], rfl, rfl, fun _ h => nomatch h⟩
  | .tuple xs :: r, _, ks, .cons h t, e => by
    unfold keysD at e
    cases q : keyD xs with
    | none => rw [q] at e; cases e
    | some k =>
      cases q2 : keysD r with
      | none => rw [q, q2] at e; cases e
      | some ks' =>
        rw [q, q2] at e
        cases e
        obtain ⟨L, e1, e2, e3⟩ := keysD_rep t q2
        cases h with
        | @tup a o vs _ h1 h2 h3 =>
          rw [keyD_ok q] at h3
          rw [DqA.ints h3] at h1
          refine ⟨(a, k) :: L, by rw [e1]; rfl, by rw [← e2]; rfl, fun p hp => ?_⟩
          rcases List.mem_cons.mp hp with rfl | hp
          · exact ⟨o, h1⟩
          · exact e3 p hp
  | .none :: _, _, _, _, e => by cases e
  | .bool _ :: _, _, _, _, e => by cases e
  | .int _ :: _, _, _, _, e => by cases e
  | .str _ :: _, _, _, _, e => by cases e
  | .list _ :: _, _, _, _, e => by cases e
  | .dict _ :: _, _, _, _, e => by cases e
/-- the numbers of a list -/
def tLenSetT (K : PySem.W.Frag) (ta : TE) : TE := fun σ H Q => ta σ H fun x H1 => ∃ (l : Addr) (L : List (Addr × List Int)), x = V.ref l ∧ SqL K H1 l (L.map fun p => V.ref p.1) ∧ (∀ p ∈ L, SqT K H1 p.1 (p.2.map V.int)) ∧ L.length < 64 ∧ Q (.int ((ddp (L.map (·.2))).length : Nat)) H1
def dLenSet (da : DE) : DE := fun Γ Q Ed => da Γ (fun x => match x.any with
  | .p (.list ds) => (match keysD ds with
    | some ks => ks.length < 64 ∧ Q (.c (dI ((ddp ks).length : Nat)))
    | none => False)
  | _ => False) Ed
section
variable {X : Cx} {tw : Tw} {W : WX} {a : Expr} {da : DE} {p p2 q pos : Pos}
theorem pe_lenSetT {ta : TE} (hc : X.calm = true) (hu : X.A.units + 64 < cLine) (hg : Gl X "len") (hm : X.mg "len" = none) (hg2 : Gl X "set") (hm2 : X.mg "set" = none) (ha : PE X a ta)
    (na : starEach [a] X.env = (false, eval a X.env) :: starEach [] X.env := by rfl) : PE X (.Call (.Name "len" p) [.Call (.Name "set" p2) [a] [] q] [] pos) (tLenSetT X.K ta) := by
  refine ⟨fun pins s σ H Q I h => ?_⟩
  refine Call_ (ld_blt I hg hm PySem.boot_len ?_)
  refine PyProof.Rows.callWith_builtin1 (PyProof.Rows.args_cons ?_ rfl) rfl rfl
  refine Call_ (ld_blt I hg2 hm2 PyProof.Rows.boot_set ?_)
  refine PyProof.Rows.callWith_type1 (PyProof.Rows.args_cons (thn (ha.run pins s σ H _ I h) fun v s1 ⟨x, H1, I1, r1, q1⟩ => PyProof.Rows.args_nil ?_) na) na rfl
  obtain ⟨l, ks, rfl, hl, hk, hf, q1⟩ := q1
  cases r1
  obtain ⟨its, rv, pl, hz⟩ := I1.list hl
  refine call_set_tups (P := X.prog) (w := X.w) ks (I1.ok.hd hc) pl.isList (by simpa using refs_of_vals rv) (fun p hp => I1.isT (hk p hp)) hf (by omega) fun h' tk L es ep t R g k => ?_
  refine PyProof.Rows.args_nil ?_
  have I2 : Inv X pins σ H1 { s1 with heap := h', toks := tk } := I1.kept fun b o e => k b o e
  obtain ⟨o, ho, hex, hd⟩ := R.ob
  have R2 : SetTR X.prog X.w ({ s1 with heap := h', toks := tk } : Shared).heap s1.heap.objs.size L es ep t := R
  have hn : es.size = (ddp (ks.map (·.2))).length := by
    rw [R2.size, ← List.length_map (·.2)]
    refine nodup_len R.nd (nodup_ddp _) fun z => ⟨fun hz => mem_ddp.mpr ?_, fun hz => ?_⟩
    · obtain ⟨p, hp, e⟩ := List.mem_map.mp hz
      exact List.mem_map.mpr ⟨p, List.mem_of_mem_take (g.sub p hp), e⟩
    · obtain ⟨p, hp, e⟩ := List.mem_map.mp (mem_ddp.mp hz)
      rw [← e]
      exact g.all p (by rw [List.take_length]; exact hp)
  have hsm : (ddp (ks.map (·.2))).length ≤ ks.length := by
    rw [← List.length_map (as := ks) (·.2)]
    exact nodup_le (nodup_ddp _) fun x hx => mem_ddp.mp hx
  exact call_len_set (es := es) (ep := ep) (t := t) ho hex hd R2.fits (by rw [hn]; omega) ⟨.int _, H1, I2.tok _, ⟨_, by rw [hn]⟩, q1⟩
theorem ve_lenset {k : Nat} (B : Blt X.mg) (hr : Room k X.A) (hc : X.calm = true) (hg : Gl X "len") (hg2 : Gl X "set") (ha : VE X tw W a da) (na : starEach [a] X.env = (false, eval a X.env) :: starEach [] X.env := by rfl) :
    VE X tw W (.Call (.Name "len" p) [.Call (.Name "set" p2) [a] [] q] [] pos) (dLenSet da) := PE.mono (pe_lenSetT hc hr.units hg B.len hg2 B.set ha na) fun σ H Q ⟨F, own, Γ, Qd, Ed, ht, R, h, k, kx⟩ => by
  refine lift_mk ht R kx h fun v H1 x R1 e1 r1 q1 => ?_
  split at q1
  · rename_i ds ex
    split at q1
    · rename_i ks ek
      obtain ⟨l, vs, rfl, hl, hd⟩ := r1.lst ex
      obtain ⟨L, rfl, e2, h3⟩ := keysD_rep hd ek
      refine ⟨l, L, rfl, .of hl, fun p hp => ?_, by rw [← List.length_map (as := L) (·.2), e2]; exact q1.1, by rw [e2]; exact (k.ext e1).dat R1 (.int _) q1.2⟩
      obtain ⟨o, ho⟩ := h3 p hp
      exact sqT_frz (of_hide ho).1
    · exact q1.elim
  · exact q1.elim
end
/-! ### products, powers -/
def rRepF (K : PySem.W.Frag) : R2 := fun x y H Q => ∃ l k xs, x = .ref l ∧ y = .int k ∧ SqT K H l xs ∧ xs ≠ [] ∧ 2 ≤ k ∧ k ≤ 1000 ∧ xs.length ≤ 1000 ∧ ∀ p (o : Obj), H p = none → o.dict = none → Q (.ref p) (upd H p (.frz o (.tup (List.replicate k.toNat xs).flatten)))
theorem op_repF {X : Cx} : OpR X (binaryOp .Mult) (rRepF X.K) := by
  intro pins s σ H x y v u Q I rx ry h
  obtain ⟨l, k, xs, rfl, rfl, hT, hne, h1, h2, hz, q⟩ := h
  cases rx
  obtain ⟨t, rfl⟩ := ry
  obtain ⟨its, r, ⟨⟨cls, dd, data, sl⟩, ho, hc, n, hd⟩, hs⟩ := I.tuple hT
  simp only at hc hd
  subst hc hd
  have hle : its.length = xs.length := r.length.symm
  have hn : its ≠ [] := fun e => hne (by
    rw [e] at hle
    exact List.eq_nil_of_length_eq_zero hle.symm)
  have hi : its.toArray.isEmpty = false := by
    cases its with
    | nil => exact absurd rfl hn
    | cons a b => rfl
  have hm : ((its.toArray.size : Nat) : Int) * k ≤ 1000000 := by
    rw [List.size_toArray, hle]
    have a1 : ((xs.length : Nat) : Int) * k ≤ 1000 * k := Int.mul_le_mul_of_nonneg_right (by omega) (by omega)
    omega
  have flen : (List.replicate k.toNat its).flatten.length ≤ sizeLine := by
    rw [PyProof.Rows.lm_len_rep_flat, hle, sizeLine_eq]
    have a1 : k.toNat * xs.length ≤ 1000 * 1000 := Nat.mul_le_mul (by omega) hz
    omega
  have c0 : (decide (k < -(2 ^ 63)) || decide (k ≥ 2 ^ 63)) = false := by
    rw [decide_eq_false (by omega), decide_eq_false (by omega)] <;> rfl
  have c1 : (its.toArray.isEmpty || k == 1) = false := by
    rw [hi, Bool.false_or]
    exact beq_eq_false_iff_ne.mpr (by omega)
  have c2 : (decide (k ≤ 0) || its.toArray.isEmpty) = false := by
    rw [hi, Bool.or_false]
    exact decide_eq_false (by omega)
  have c4 : Builtin.Tuple.tupleTooMany (((its.toArray.size : Nat) : Int) * k) = false := by
    unfold Builtin.Tuple.tupleTooMany
    rw [sizeLine_eq]
    exact decide_eq_false (by omega)
  refine wpAny_binaryOp_repeat_ref (T := "tuple") (U := "int") (by decide) ⟨_, ho, rfl⟩ (fun s' => typeIs_int s' k t) noFill_tuple_mul F.fills_int_mul F.slot_int_rmul repeat_tuple F.slot_int_index.lookup
    (call_meets F.slot_int_rmul (typeIs_int s k t) F.entry_int_rmul (F.args_int_rmul_2 _ _) (int_rmul_tuple k t l its.toArray n dd sl)
      ⟨ho, rfl, ⟨_, ho, rfl⟩, call_meets F.slot_tuple_mul ⟨_, ho, rfl⟩ F.entry_tuple_mul (F.args_tuple_mul_2 _ _) (tuple_mulW l its.toArray n dd sl k t c0 c1 c2 (by omega) c4 (by rw [size_rep, List.size_toArray]; exact flen)) ⟨ho, ?_⟩⟩)
  rw [size_rep]
  exact tup_laid I (r.rep k.toNat) (by rw [PyProof.Rows.lm_len_rep_flat, sizeLine_eq]; have a1 : k.toNat * xs.length ≤ 1000 * 1000 := Nat.mul_le_mul (by omega) hz; omega) q
def rMulP (K : PySem.W.Frag) : R2 := fun x y H Q => rI CMul (fun i j => .int (i * j)) x y H Q ∨ (rRepF K x y H Q ∨ rRep x y H Q)
theorem op_mulP {X : Cx} : OpR X (binaryOp .Mult) (rMulP X.K) := op_mul.or (op_repF.or op_rep)
def gMulP : G2 := fun x y Q => match x.any, y with
  | .p (.int i), .c (.p (.int j)) => CMul i j ∧ Q (.c (dI (i * j)))
  | .p (.tuple xs), .c (.p (.int k)) => xs ≠ [] ∧ 2 ≤ k ∧ k ≤ 1000 ∧ xs.length ≤ 1000 ∧ Q (.c (.p (.tuple (List.replicate k.toNat xs).flatten)))
  | .p (.list xs), .c (.p (.int k)) => k ≤ 1000 ∧ -1000 ≤ k ∧ xs.length ≤ 1000 ∧ Q (.f (.p (.list (List.replicate k.toNat xs).flatten)))
  | _, _ => False
theorem sim_mulP {K : PySem.W.Frag} : Sim2 (rMulP K) gMulP := fun F own Γ σ H v u x y Qd Q R r1 r2 q k => by
  unfold gMulP at q
  split at q
  · rename_i i j e1
    have h1 := r1.any
    rw [e1] at h1
    cases h1
    cases r2
    exact .inl ⟨i, j, rfl, rfl, q.1, k.dat R (.int _) q.2⟩
  · rename_i xs j e1
    obtain ⟨aa, oa, vs, rfl, ha, hda, hd⟩ := r1.tup e1
    cases r2
    exact .inr (.inl ⟨aa, j, vs, rfl, rfl, sqT_frz (of_hide ha).1, fun z => q.1 (hd.nil_iff.mp z), q.2.1, q.2.2.1, by rw [hd.length]; exact q.2.2.2.1, fun p o np ho => k _ _ _ (R.new np) (ext_new np) (R.newT np ho (hd.rep _)) q.2.2.2.2⟩)
  · rename_i xs j e1
    obtain ⟨aa, vs, rfl, ha, hd⟩ := r1.lst e1
    cases r2
    refine .inr (.inr ⟨aa, j, vs, rfl, rfl, ha, by omega, by omega, ?_, fun p np => k _ _ _ (R.new np) (ext_new np) (R.newL np (hd.rep _)) q.2.2.2⟩)
    rw [hd.length, sizeLine_eq]
    have a1 : xs.length * j.toNat ≤ 1000 * 1000 := Nat.mul_le_mul q.2.2.1 (by omega)
    omega
  · exact q.elim
section
variable {X : Cx} {tw : Tw} {W : WX} {a b : Expr} {da db : DE} {pos p p2 q : Pos}
theorem ve_mulP (ha : VE X tw W a da) (hb : VE X tw W b db) : VE X tw W (.BinOp a .Mult b pos) (dOp gMulP da db) := ve_op op_mulP sim_mulP ha hb
def gPow : G2 := gIc CPow fun i j => dI (i ^ j.toNat)
theorem ve_pow (ha : VE X tw W a da) (hb : VE X tw W b db) : VE X tw W (.BinOp a .Pow b pos) (dOp gPow da db) := ve_op op_pow (sim_Ic fun _ _ _ => .int _) ha hb
/-- list(range(n)) -/
def rgD (n : Int) : List PyData := (List.range n.toNat).map fun (i : Nat) => PyData.int i
def dListRg (t : DE) : DE := fun Γ Q Ed => t Γ (fun x => match x with
  | .c (.p (.int n)) => -1000000 ≤ n ∧ n ≤ 1000000 ∧ Q (.f (.p (.list (rgD n))))
  | _ => False) Ed
theorem rg_rep {I : Hp} {n : Int} : DqA I (rgV 0 n) (rgD n) := by
  have e : rgV 0 n = ((List.range n.toNat).map fun (i : Nat) => (i : Int)).map V.int := by
    unfold rgV
    rw [Int.sub_zero, List.map_map]
    refine List.map_congr_left fun i _ => ?_
    simp
  have e2 : rgD n = ((List.range n.toNat).map fun (i : Nat) => (i : Int)).map PyData.int := by
    unfold rgD
    rw [List.map_map]
    rfl
  rw [e, e2]
  exact DqA.ofInts _
theorem ve_listRg (B : Blt X.mg) (hc : X.calm = true) (hg : Gl X "list") (hg2 : Gl X "range") (ha : VE X tw W a da) (na : starEach [a] X.env = (false, eval a X.env) :: starEach [] X.env := by rfl)
    (na2 : starEach [.Call (.Name "range" p2) [a] [] q] X.env = (false, eval (.Call (.Name "range" p2) [a] [] q) X.env) :: starEach [] X.env := by rfl) :
    VE X tw W (.Call (.Name "list" p) [.Call (.Name "range" p2) [a] [] q] [] pos) (dListRg da) := PE.mono (pe_listRg hc hg B.list (prg_1 hg2 B.range ha na) na2) fun σ H Q ⟨F, own, Γ, Qd, Ed, ht, R, h, k, kx⟩ => by
  refine lift_mk ht R kx h fun v H1 x R1 e1 r1 q1 => ?_
  split at q1
  · rename_i n
    cases r1
    refine ⟨n, rfl, ⟨by omega, by omega, by omega, by omega, by omega⟩, fun p np => (k.ext e1) _ _ _ (R1.new np) (ext_new np) (R1.newL np rg_rep) q1.2.2⟩
  · exact q1.elim
end
end WL

set_option maxRecDepth 100000
set_option maxHeartbeats 1000000
namespace WL
open PySem PySem.Spec PyProof.Rows L2
/-! ### raise X('..') -/
structure ExcV (K : PySem.W.Frag) (mg : Str → Option Value) (x : Str) (C : Addr) : Prop where
  at_ : mg x = some (.ref C)
  ex : PySem.W.excIn K C He.veBase "ValueError.__new__" = true
  kp : PySem.W.keepIn K (.ref C) = true
  sub : PySem.W.subIn K (.ref C) (.type "BaseException") = some true
  ty : PySem.W.typeIn K (.ref C) = some (.type "type")
def dRaise (c : Value) : DS := fun E Γ => E.ex Γ c
theorem vs_raise {X : Cx} {tw : Tw} {W : WX} {x m : Str} {j : Nat} {p p2 pos pos' : Pos} {C : Addr} (hc : X.calm = true) (tk : Takes X W) (hg : Gl X x) (G : ExcV X.K X.mg x C) (hdb : (x == ("__debug__" : Str)) = false := by decide) :
    VS X tw W (.Raise (some (.Call (.Name x p) [.Constant (.str m) j p2] [] pos)) none pos') (dRaise (.ref C)) :=
  PS.mono (ps_raise hc tk (pmk_own PySem.F.excBase_ValueError G.ex G.at_ G.kp (raises_own G.sub G.ty) hg hdb)) fun Dd σ H ⟨F, own, Γ, E, ht, R, h, k⟩ => k.ex _ own Γ σ H R .refl h
/-! ### -x -/
def dNeg (t : DE) : DE := fun Γ Q Ed => t Γ (fun x => match x with
  | .c (.p (.int i)) => Q (.c (dI (-i)))
  | _ => False) Ed
theorem ve_neg {X : Cx} {tw : Tw} {W : WX} {a : Expr} {da : DE} {pos : Pos} (ha : VE X tw W a da) : VE X tw W (.UnaryOp .USub a pos) (dNeg da) := PE.mono (pe_un un_neg ha) fun σ H Q ⟨F, own, Γ, Qd, Ed, ht, R, h, k, kx⟩ => by
  refine lift_mk ht R kx h fun v H1 x R1 e1 r1 q1 => ?_
  split at q1
  · rename_i i
    cases r1
    exact ⟨i, rfl, (k.ext e1).dat R1 (.int _) q1⟩
  · exact q1.elim
end WL

set_option maxRecDepth 100000
set_option maxHeartbeats 1000000
namespace WL
open PySem PySem.Spec PyProof.Rows L2
/-! ### sorted(xs) -/
abbrev srtD (ds : List PyData) : List PyData := ds.mergeSort (PySem.W.dataLe false id)
def rSortD : List V → Hp → VK → Prop := fun xs H Q => ∃ (a : Addr) (vs : List V) (ds : List PyData) (I : Hp), xs = [.ref a] ∧ H a = some (.lst vs) ∧ Sub I H ∧ DqA I vs ds ∧ PySem.W.AllAlike ds ∧ PySem.W.Sortable ds ∧ ds.length ≤ 100000 ∧ (∀ d ∈ ds, d.depth ≤ 50) ∧
  ∀ p ws, H p = none → DqA I ws (srtD ds) → Q (.ref p) (upd H p (.lst ws))
theorem zip_snd {vs : List V} {ds : List PyData} (h : vs.length = ds.length) : (vs.zip ds).map (fun b => b.2) = ds := by
  rw [← List.unzip_snd, List.unzip_zip_right (by omega)]
theorem each_zip {P : Program} {X : Cx} {pins : List (Addr × Obj)} {σ : L2.St} {H I : Hp} {s : Shared} (J : Inv X pins σ H s) (sb : Sub I H) : ∀ {vs : List V} {ds : List PyData} {us : List Value}, DqA I vs ds → Vals vs us →
    PySem.W.EachIs (fun u (b : V × PyData) => RelV b.1 u ∧ Dq I b.1 b.2) us (vs.zip ds) ∧ PySem.W.EachIs (fun u (b : V × PyData) => ∃ as, Reads s.heap u b.2 as) us (vs.zip ds)
  | [], [], _, .nil, .nil => ⟨.nil, .nil⟩
  | v :: vs, d :: ds, _, .cons h t, .cons r rt => by
    obtain ⟨i1, i2⟩ := each_zip (P := P) J sb t rt
    obtain ⟨as, q⟩ := Dp.reads (X := X) J d v _ (dq_dp d _ (dq_sub sb d v h)) r
    exact ⟨.cons ⟨r, h⟩ i1, .cons ⟨as, q⟩ i2⟩
theorem each_out {I : Hp} : ∀ {us : List Value} {bs : List (V × PyData)}, PySem.W.EachIs (fun u (b : V × PyData) => RelV b.1 u ∧ Dq I b.1 b.2) us bs → Vals (bs.map (·.1)) us ∧ DqA I (bs.map (·.1)) (bs.map (·.2))
  | _, _, .nil => ⟨.nil, .nil⟩
  | _, _, .cons h t => by
    obtain ⟨i1, i2⟩ := each_out t
    exact ⟨.cons h.1 i1, .cons h.2 i2⟩
theorem call_sortD {X : Cx} (hu : X.A.units + 64 < cLine) : CallR X (.builtin "sorted") rSortD := by
  intro pins s σ H xs us Q J r h
  obtain ⟨a, vs, ds, I, rfl, ha, sb, hd, h1, h2, h3, h4, q⟩ := h
  obtain ⟨u, rfl, rx⟩ := vals1 r
  obtain rfl : u = .ref a := rx
  obtain ⟨its, rv, pl, hz⟩ := J.list (SqL.of ha)
  obtain ⟨e1, e2⟩ := each_zip (P := X.prog) J sb hd rv
  have em : (vs.zip ds).map (fun b => b.2) = ds := zip_snd hd.length
  have el : (vs.zip ds).length = ds.length := by rw [← em, List.length_map, em]
  refine PySem.W.sorted_data (enc := fun b : V × PyData => b.2) pl.isList e1 e2 (by rw [em]; exact h1) (by rw [em]; exact h2) (by rw [el, sizeLine_eq]; omega) (fun b hb => ?_) fun out ho eo => ?_
  · have := h4 b.2 (by rw [← em]; exact List.mem_map.mpr ⟨b, hb, rfl⟩)
    omega
  · obtain ⟨c, hc⟩ := PyProof.Rows.sortedAll_at s.heap its out.toArray
    obtain ⟨o1, o2⟩ := each_out eo
    have es : (((vs.zip ds).mergeSort (PySem.W.dataLe false fun b : V × PyData => b.2)).map fun b => b.2) = srtD ds := by
      have z := List.map_mergeSort (r := PySem.W.dataLe false fun b : V × PyData => b.2) (s := PySem.W.dataLe false (id : PyData → PyData)) (f := fun b : V × PyData => b.2) (l := vs.zip ds) (fun a _ b _ => rfl)
      rw [em] at z
      exact z
    rw [es] at o2
    refine ⟨.ref (s.heap.objs.size + 1), _, J.laid (t' := s.toks) (o := .lst _) (fun _ _ => PyProof.Rows.sortedAll_old) (Nat.le_succ _) ⟨?_, out, c, o1, hc⟩, rfl, q _ _ (J.hok.fresh (Nat.le_succ _)) o2⟩
    rw [o1.length, ho, el, sizeLine_eq]
    omega
def gSorted : GC := fun xs Q => match xs with
  | [x] => (match x.any with
    | .p (.list ds) => PySem.W.AllAlike ds ∧ PySem.W.Sortable ds ∧ ds.length ≤ 100000 ∧ (∀ d ∈ ds, d.depth ≤ 50) ∧ Q (.f (.p (.list (srtD ds))))
    | _ => False)
  | _ => False
theorem sim_sorted : SimC rSortD gSorted := fun F own Γ σ H vs xs Qd Q R rs q k => by
  unfold gSorted at q
  split at q
  · cases rs with
    | cons r rn =>
      cases rn
      split at q
      · rename_i ds ex
        obtain ⟨aa, ws, rfl, ha, hd⟩ := r.lst ex
        exact ⟨aa, ws, ds, _, rfl, ha, sub_hide, hd, q.1, q.2.1, q.2.2.1, q.2.2.2.1, fun p zs np hz => k _ _ _ (R.new np) (ext_new np) (R.newL np hz) q.2.2.2.2⟩
      · exact q.elim
  · exact q.elim
section
variable {X : Cx} {tw : Tw} {W : WX} {e : Expr} {t : DA} {pos p : Pos}
theorem ve_sorted {k : Nat} (B : Blt X.mg) (hr : Room k X.A) (hg : Gl X "sorted") (ha : VA X tw W [e] t) (hA : ArgsOk X pos e [] := by exact ⟨rfl, rfl⟩) : VE X tw W (.Call (.Name "sorted" p) [e] [] pos) (dCB gSorted t) := ve_callB (call_sortD hr.units) sim_sorted hg B.sorted bb_sorted ha (hA := hA)
end
end WL

set_option maxRecDepth 100000
set_option maxHeartbeats 1000000
namespace WL
open PySem PySem.Spec PyProof.Rows L2
/-! ### dicts of tuples of ints: written, displayed -/
theorem ent_none {k : List Int} {L : List Ent} {xs : List (List Int × Addr × Value)} (q : Paired EntR L xs) (h : atE L k = none) : atKey xs k = none := by
  have := (ent_at (k := k) q).2
  rw [h] at this
  cases e : atKey xs k with
  | none => rfl
  | some z => rw [e] at this; cases this
theorem atE_mem {k : List Int} : ∀ {L : List Ent}, atE L k = none → k ∉ L.map (fun p => p.1)
  | [], _, h => nomatch h
  | p :: L, e, h => by
    unfold atE at e
    split at e
    · cases e
    · rename_i n
      rw [List.map_cons] at h
      rcases List.mem_cons.mp h with h | h
      · exact n h.symm
      · exact atE_mem e h
/-- d[k] = v, k a new key -/
theorem dx_put {X : Cx} {pins : List (Addr × Obj)} {σ : L2.St} {H : Hp} {s : Shared} {A : Around} {E : Value → Shared → Prop} {a q : Addr} {L : List Ent} {ks : List (List Int)} {ds : List PyData} {k : List Int} {v : V} {u : Value} {Q : Unit → Shared → Prop} (hu : A.units + 64 < cLine)
    (I : L2.Inv X pins σ H s) (e : H a = some (DXo a L)) (hx : DxA H L ks ds) (hk : Dq H (.ref q) (.tuple (k.map PyData.int))) (hn : atE L k = none) (hl : L.length < sizeLine) (rv : RelV v u)
    (h : ∀ s', L2.Inv X pins σ (upd H a (DXo a (L ++ [(k, q, v)]))) s' → Q () s') : wpAny (model X.prog X.w) A (setItem (.ref a) (.ref q) u) Q E s := by
  obtain ⟨hd, hz, xs, rel, dd⟩ := dx_dict I.hok (.inl e) hx
  have hz' : xs.length ≤ sizeLine := by rw [← Paired.length rel]; exact hz
  refine wpAny_setItem_heap (hsz := hz') (tupleKind_room_in1 (by omega)) (keyD_is I.hok hk) dd fun h' dd' hs => h _ ?_
  rw [storedH_new (ent_none rel hn)] at dd'
  obtain ⟨ob, es, ep, ho, hex, hdat, hes, _, hnd⟩ := dd'
  refine d_write I (by rw [e]; exact True.intro) hs ⟨ob, ho⟩ (dx_obj ⟨by rw [List.length_append, List.length_singleton]; omega, hd, ?_, xs ++ [(k, q, u)], Paired.snoc rel ⟨rfl, rfl, rv⟩, ob, es, ep, ho, hex, hdat, fun P w => hes⟩)
  rw [List.map_append]
  refine List.nodup_append.mpr ⟨?_, by simp, fun x hx1 y hy e2 => ?_⟩
  · exact (dx_get I.hok (.inl e)).2.2.1
  · have hy : y = k := by simpa using hy
    rw [e2, hy] at hx1
    exact atE_mem hn hx1
/-- d[k] = v, d the slot i's own -/
def dDput (i : Nat) (tk tv : DE) : DS := fun E Γ => tv Γ (fun v => v.dat fun d => match Γ[i]? with
  | some (.o (.dct ks ds)) => tk Γ (fun x => match x.any with
    | .p (.tuple is) => (match keyD is with
      | some k => hasK ks k = false ∧ ks.length < 100000 ∧ E.nx (Γ.set i (.o (.dct (ks ++ [k]) (ds ++ [d]))))
      | none => False)
    | _ => False) (E.ex Γ)
  | _ => False) (E.ex Γ)
def sDputX (i : Nat) (tk tv : TE) : TS := fun D σ H => tv σ H fun v H1 => ∃ a, σ[i]? = some (some (.ref a)) ∧ tk σ H1 fun y H2 => ∃ (L : List Ent) (ks : List (List Int)) (ds : List PyData) (q : Addr) (k : List Int), H2 a = some (DXo a L) ∧ DxA H2 L ks ds ∧ y = .ref q ∧ Dq H2 (.ref q) (.tuple (k.map PyData.int)) ∧ atE L k = none ∧ L.length < sizeLine ∧ D.nx σ (upd H2 a (DXo a (L ++ [(k, q, v)])))
section
variable {X : Cx} {tw : Tw} {W : WX} {e ke : Expr} {da dk : DE} {pos pos' : Pos}
theorem ps_dputX {i : Nat} {x : Str} {px : Pos} {ta tk : TE} (hu : X.A.units + 64 < cLine) (hx : PE X (.Name x px) (tVar i)) (hk : PE X ke tk) (hv : PE X e ta) (hs : swapsWith e (some (.Subscript (.Name x px) ke pos')) pos.line X.env = pure false) :
    PS X (.Assign [.Subscript (.Name x px) ke pos'] e pos) (sDputX i tk ta) := by
  refine ⟨fun pins s σ H D I h => ?_⟩
  refine wpAny_Assign_Subscript (thn (hv.run pins s σ H _ I h) fun r s1 ⟨v, H1, I1, rv, a, ea, q1⟩ => thn (hx.run pins s1 σ H1 (fun z H2 => z = .ref a ∧ H2 = H1) I1 ⟨.ref a, ea, rfl, rfl⟩) fun u s2 ⟨z, H2, I2, rz, ez, e2⟩ => ?_) hs
  subst ez e2
  cases rz
  refine thn (hk.run pins s2 σ H2 _ I2 q1) fun iv s3 ⟨y, H3, I3, ry, L, ks, ds, q, k, ha, hx', ey, hk', hn, hl, q3⟩ => ?_
  subst ey
  cases ry
  exact dx_put hu I3 ha hx' hk' hn hl rv fun s4 I4 => ⟨σ, _, I4, q3⟩
theorem dput_sim {i : Nat} {Dd : Ends} {σ : L2.St} {H : Hp} (h : liftS tw W (dDput i dk da) Dd σ H) : sDputX i (lift tw W dk) (lift tw W da) Dd σ H := by
  obtain ⟨F, own, Γ, E, ht, R, h, k⟩ := h
  refine lift_mk ht R (KS.kx R k) h fun v H1 x R1 e1 r1 q1 => ?_
  obtain ⟨d, q2, r2, _⟩ := AV.dat_rep r1 q1
  split at q2
  · rename_i ks ds e
    obtain ⟨p, h1, h2, h3⟩ := R1.owns e
    obtain ⟨L, hL, hA⟩ := h3
    have k1 := k.gr (R.gr e1)
    refine ⟨p, h2, lift_mk ht R1 (KS.kx R1 k1) q2 fun y H2 z R2 e2 r3 q3 => ?_⟩
    split at q3
    · rename_i is ez
      split at q3
      · rename_i kk ek
        obtain ⟨n1, n2, q4⟩ := q3
        obtain ⟨q, rfl, hq⟩ := r3.key ez ek
        have hL2 := e2 p _ hL (R1.notT h1)
        have hA2 := hA.sub (e2.vis R1.ok)
        have nk : atE L kk = none := by
          have := (dxa_at (k := kk) hA2).2
          rw [n1] at this
          cases ee : atE L kk with
          | none => rfl
          | some z => rw [ee] at this; cases this
        have ll : L.length = ks.length := by rw [← hA2.keys, List.length_map]
        refine ⟨L, ks, ds, q, kk, hL2, hA2.sub sub_hide, rfl, dq_sub sub_hide _ _ hq, nk, by rw [ll, sizeLine_eq]; omega, ?_⟩
        exact k1.nx _ _ _ _ (R2.write (x := .dct (ks ++ [kk]) (ds ++ [d])) h1 dx_notTup ⟨L ++ [(kk, q, v)], upd_same, hA2.snoc hq (dq_sub (e2.vis R1.ok) _ _ r2)⟩) (Gr.trans (R1.gr e2) (R2.grw h1)) q4
      · exact q3.elim
    · exact q3.elim
  · exact q2.elim
theorem vs_dput {i k : Nat} {x : Str} {px : Pos} (hr : Room k X.A) (hx : PE X (.Name x px) (tVar i)) (hk : VE X tw W ke dk) (hv : VE X tw W e da) (hs : swapsWith e (some (.Subscript (.Name x px) ke pos')) pos.line X.env = pure false := by rfl) :
    VS X tw W (.Assign [.Subscript (.Name x px) ke pos'] e pos) (dDput i dk da) := PS.mono (ps_dputX hr.units hx hk hv hs) fun _ _ _ => dput_sim
end
end WL

set_option maxRecDepth 100000
set_option maxHeartbeats 1000000
namespace WL
open PySem PySem.Spec PyProof.Rows L2
/-! ### {k: v} -/
mutual
/-- lists and tuples alone matter to data -/
theorem dq_sub2 {I I' : Hp} (s1 : ∀ a xs, I a = some (.lst xs) → I' a = some (.lst xs)) (s2 : ∀ a o xs, I a = some (.frz o (.tup xs)) → I' a = some (.frz o (.tup xs))) : ∀ (d : PyData) (v : V), Dq I v d → Dq I' v d
  | .none, _, h => by cases h; exact .non
  | .bool b, _, h => by cases h; exact .bl b
  | .int i, _, h => by cases h; exact .int i
  | .str x, _, h => by cases h; exact .str x
  | .list ds, _, h => by
    cases h with
    | lst hs ha => exact .lst (s1 _ _ hs) (dqA_sub2 s1 s2 ds _ ha)
  | .tuple ds, _, h => by
    cases h with
    | tup hs hd ha => exact .tup (s2 _ _ _ hs) hd (dqA_sub2 s1 s2 ds _ ha)
  | .dict _, _, h => by cases h
theorem dqA_sub2 {I I' : Hp} (s1 : ∀ a xs, I a = some (.lst xs) → I' a = some (.lst xs)) (s2 : ∀ a o xs, I a = some (.frz o (.tup xs)) → I' a = some (.frz o (.tup xs))) : ∀ (ds : List PyData) (vs : List V), DqA I vs ds → DqA I' vs ds
  | [], _, h => by cases h; exact .nil
  | d :: ds, _, h => by
    cases h with
    | cons h1 h2 => exact .cons (dq_sub2 s1 s2 d _ h1) (dqA_sub2 s1 s2 ds _ h2)
end
theorem dx_empty {P : Program} {w : World} {H : Hp} (h : Heap) (hb : sysModules < h.objs.size) : ObjOk P w H (h.push { cls := .type "dict", data := .dict #[] }) h.objs.size (DXo h.objs.size []) :=
  dx_obj ⟨Nat.zero_le _, beq_eq_false_iff_ne.mpr (Ne.symm (Nat.ne_of_lt hb)), List.nodup_nil, [], .nil, _, #[], 0, Heap.get?_push_size _ rfl, ⟨rfl, rfl, rfl⟩, rfl, fun _ _ => rfl⟩
def tDict1 (tk tv : TE) : TE := fun σ H Q => ∀ p, H p = none → tk σ (upd H p (DXo p [])) fun y H2 => tv σ H2 fun v H3 => ∃ (q : Addr) (k : List Int), y = .ref q ∧ Dq H3 (.ref q) (.tuple (k.map PyData.int)) ∧ H3 p = some (DXo p []) ∧ Q (.ref p) (upd H3 p (DXo p [(k, q, v)]))
def dDict1 (tk tv : DE) : DE := fun Γ Q Ed => tk Γ (fun x => tv Γ (fun y => match x with
  | .c (.p (.tuple is)) => (match keyD is with
    | some k => y.dat fun d => Q (.f (.dct [k] [d]))
    | none => False)
  | _ => False) Ed) Ed
section
variable {X : Cx} {tw : Tw} {W : WX} {a b : Expr} {da db : DE} {pos : Pos}
theorem pe_dict1 {ta tb : TE} (hu : X.A.units + 64 < cLine) (ha : PE X a ta) (hb : PE X b tb) : PE X (.Dict [some a] [b] pos) (tDict1 ta tb) := by
  refine ⟨fun pins s σ H Q I h => ?_⟩
  have hn := I.hok.fresh (Nat.le_refl s.heap.objs.size)
  have I1 := I.laid (a := s.heap.objs.size) (o := DXo s.heap.objs.size []) (h' := s.heap.push { cls := .type "dict", data := .dict #[] }) (t' := s.toks) (fun _ _ q => Heap.get?_push_of_some _ q) (Nat.le_refl _) (dx_empty s.heap I.big)
  have hsh : (evalEachOpt [some a] X.env).zip ((evalEach [b] X.env).map fun v => do let x ← v; standAt pos; pure x) = [(eval a X.env, do let x ← eval b X.env; standAt pos; pure x)].map fun p => (some p.1, p.2) := rfl
  rw [arm_eval_Dict, hsh, dictDisplay_pairs _ (by intro z; cases z) (by show 1 < 17; decide)]
  refine wpAny_bind (wpAny_standAt (wpAny_bind (wpAny_subDictH (knd := tupleKind (intKind X.prog X.w)) (Q := fun d s' => wpAny (model X.prog X.w) X.A (pure (Value.ref d)) (EP X pins σ Q) X.xe s') ?_ (by show 1 ≤ 15; decide) ?_)))
  · show X.A.units < cLine
    omega
  · refine evalPairs_cons (thn (ha.run pins _ σ _ _ I1 (h _ hn)) fun u s1 ⟨y, H2, I2, ry, q2⟩ => wpAny_bind (thn (hb.run pins s1 σ H2 _ I2 q2) fun u2 s2 ⟨v, H3, I3, rv, q, k, ey, hk, hp, q3⟩ => wpAny_bind (wpAny_standAt (wpAny_pure (evalPairs_nil ?_)))))
    subst ey
    cases ry
    obtain ⟨hd, hz, xs, rel, dd⟩ := dx_dict I3.hok (.inl hp) .nil
    cases rel
    refine ⟨[(k, q, u2)], ⟨rfl, rfl, keyD_is I3.hok hk, trivial⟩, dd, fun h' tk dd' hs => wpAny_pure ?_⟩
    obtain ⟨ob, es, ep, ho, hex, hdat, hes, _, _⟩ := dd'
    exact ⟨.ref s.heap.objs.size, _, d_write I3 (by rw [hp]; exact True.intro) hs ⟨ob, ho⟩ (dx_obj ⟨by rw [sizeLine_eq]; show 1 ≤ 16777216; decide, hd, by simp, [(k, q, u2)], .cons ⟨rfl, rfl, rv⟩ .nil, ob, es, ep, ho, hex, hdat, fun P w => hes⟩), rfl, q3⟩
theorem dict1_sim {σ : L2.St} {H : Hp} {Q : VK} (h : lift tw W (dDict1 da db) σ H Q) : tDict1 (lift tw W da) (lift tw W db) σ H Q := by
  obtain ⟨F, own, Γ, Qd, Ed, ht, R, h, k, kx⟩ := h
  intro p np
  have R0 := R.new (o := DXo p []) np
  have e0 : Ext F H (upd H p (DXo p [])) := ext_new np
  refine lift_mk ht R0 (kx.ext e0) h fun y H2 x R2 e2 r2 q2 => ?_
  refine lift_mk ht R2 (kx.ext (e0.trans e2)) q2 fun v H3 z R3 e3 r3 q3 => ?_
  split at q3
  · rename_i is
    split at q3
    · rename_i kk ek
      obtain ⟨d, q4, rd, _⟩ := AV.dat_rep r3 q3
      obtain ⟨q, rfl, hq⟩ := (r2.ext R2 e3).key (is := is) rfl ek
      have nx : ¬ XX F own p := R.free np
      have nt : ¬ F.tw.T p := fun z => nx (.inl (R.ok.tx p z))
      have hp : H3 p = some (DXo p []) := e3 p _ (e2 p _ upd_same nt) nt
      refine ⟨q, kk, rfl, dq_sub sub_hide _ _ hq, hp, ?_⟩
      have e4 : Ext F H (upd H3 p (DXo p [(kk, q, v)])) := fun a o e n => by
        rw [upd_ne (ne_of_none e np)]
        exact ((e0.trans e2).trans e3) a o e n
      have tin : F.tw.TI (upd H3 p (DXo p [(kk, q, v)])) := R.ok.st H3 _ (fun a t => upd_ne fun z => nt (by rw [← z]; exact t)) (fun a q' z => by rw [upd_ne (fun e => dx_code a q' (Option.some.inj ((hp.symm.trans (by rw [← e])).trans z)))]; exact z) R3.ti
      have R4 : Rel F own Γ σ (upd H3 p (DXo p [(kk, q, v)])) := R.to e4 tin fun a t => by
        rw [upd_ne fun z => nt (by rw [← z]; exact t)]
        exact R3.x a (R3.ok.tx a t)
      have s1 : ∀ a xs, vis F own H3 a = some (.lst xs) → hide (upd H3 p (DXo p [(kk, q, v)])) (fun a => XX F own a ∨ a = p) a = some (.lst xs) := fun a xs e => by
        obtain ⟨e5, e6⟩ := of_hide e
        have ne : a ≠ p := fun z => by rw [z, hp] at e5; cases e5
        exact hide_of (by rw [upd_ne ne]; exact e5) fun z => z.elim e6 ne
      have s2 : ∀ a o xs, vis F own H3 a = some (.frz o (.tup xs)) → hide (upd H3 p (DXo p [(kk, q, v)])) (fun a => XX F own a ∨ a = p) a = some (.frz o (.tup xs)) := fun a o xs e => by
        obtain ⟨e5, e6⟩ := of_hide e
        have ne : a ≠ p := fun z => by rw [z, hp] at e5; cases e5
        exact hide_of (by rw [upd_ne ne]; exact e5) fun z => z.elim e6 ne
      exact k _ _ (.f (.dct [kk] [d])) R4 e4 ⟨p, rfl, R.freeB np, nx, _, upd_same, .cons (dq_sub2 s1 s2 _ _ hq) (dq_sub2 s1 s2 _ _ rd) .nil⟩ q4
    · exact q3.elim
  · exact q3.elim
theorem ve_dict1 {k : Nat} (hr : Room k X.A) (ha : VE X tw W a da) (hb : VE X tw W b db) : VE X tw W (.Dict [some a] [b] pos) (dDict1 da db) := PE.mono (pe_dict1 hr.units ha hb) fun _ _ _ => dict1_sim
end
end WL

set_option maxRecDepth 100000
set_option maxHeartbeats 1000000
namespace WL
open PySem PySem.Spec PyProof.Rows L2
/-! ### a frozen dict's keys, walked -/
section
variable {X : Cx} {pins : List (Addr × Obj)} {σ : L2.St} {H : Hp} {s : Shared} {d : Addr} {o : Obj} {L : List Ent}
theorem frzX (I : Inv X pins σ H s) (h : H d = some (.frz o (DXo d L))) :
    (d == sysModules) = false ∧ s.heap.get? d = some o ∧ o.ExactDict ∧ ∃ (es : Array DictEntry) (ep : Nat), o.data = .dict es ep ∧ es.size = L.length ∧ ∀ (i : Nat) (p : Ent), L[i]? = some p → ∃ en : DictEntry, es[i]? = some en ∧ en.key = .ref p.2.1 := by
  obtain ⟨hd, hX⟩ := (show ObjOk X.prog X.w H s.heap d (.frz o (DXo d L)) from I.hok d _ h)
  obtain ⟨z, hs, nd, xs, pr, o', es, ep, ho, hx, hdt, he⟩ := (show DXat s.heap d L from hX.1)
  rw [hd] at ho
  cases ho
  have he := he X.prog X.w
  refine ⟨hs, hd, hx, es, ep, hdt, ?_, fun i p e => ?_⟩
  · have l1 : es.size = xs.length := size_of_entries he
    have l2 : L.length = xs.length := Paired.length pr
    omega
  · obtain ⟨b, hb, e1, e2, _⟩ := paired_get pr e
    have q := entry_at he i
    rw [hb] at q
    exact ⟨_, q, by rw [e2]; rfl⟩
end
def Itx (d : Addr) (o : Obj) (L : List Ent) : It :=
  ⟨fun i H => H d = some (.frz o (DXo d L)) ∧ i < L.length, fun i H x H' => H' = H ∧ ∃ p : Ent, L[i]? = some p ∧ x = .ref p.2.1, fun i H => H d = some (.frz o (DXo d L)) ∧ L.length ≤ i⟩
section
variable {P : Program} {w : World} {K : PySem.W.Frag} {tg : Expr} {d : Addr} {o : Obj} {es : Array DictEntry} {ep : Nat}
theorem turn_keysX {L : List Ent} (it : Addr) (hod : o.data = .dict es ep) : Turn P w K tg (Itx d o L) [it] it (fun i h => h.IsKeyIter it d i L.length ep) where
  mem := by simp
  obj := fun i h st b hb => by
    have e : b = it := by simpa using hb
    subst e
    obtain ⟨oi, e, c, dd⟩ := st
    exact ⟨oi, e, fun v z => by rw [dd] at z; cases z⟩
  keep := fun i h h' st k => st.at fun oi e => k it (by simp) oi e
  item := by
    intro X hP hw hK hc i pins s σ H E I hf st hg
    subst hP hw hK
    obtain ⟨hd, hi⟩ := hg
    obtain ⟨f0, f1, f2, f3, f4, f5⟩ := hf it (by simp)
    obtain ⟨hs, hgd, hx, es', ep', hdt, hsz, ent⟩ := frzX I hd
    obtain ⟨rfl, rfl⟩ := dict_ep hod hdt
    obtain ⟨p, hp⟩ : ∃ p, L[i]? = some p := ⟨L[i], List.getElem?_eq_getElem hi⟩
    obtain ⟨en, hen, hkey⟩ := ent i p hp
    refine next_key_item st hgd hdt hsz hen fun h' st' sb => ?_
    have I1 : Inv X pins σ H { s with heap := h' } := I.turned (t' := s.toks) (fun b ob hb e => (sb.2 b hb).trans e) f0 f1 f3 f4 f5
    obtain ⟨oi, e, c, dd⟩ := id st'
    exact ⟨en.key, rfl, go_of (s := { s with heap := h' }) e c dd (by decide) ⟨.ref p.2.1, H, I1, hkey, ⟨rfl, p, hp, rfl⟩, st', fun b hb => (hf b hb).1⟩⟩
  done := by
    intro X hP hw hK hc i pins s σ H E I hf st hg
    subst hP hw hK
    obtain ⟨hd, hi⟩ := hg
    obtain ⟨f0, f1, f2, f3, f4, f5⟩ := hf it (by simp)
    obtain ⟨hs, hgd, hx, es', ep', hdt, hsz, ent⟩ := frzX I hd
    obtain ⟨rfl, rfl⟩ := dict_ep hod hdt
    exact next_key_end (I.ok.hd hc) st hgd hdt hsz hi fun h' eb => ⟨rfl, I.turned (t' := s.toks) (fun b ob hb e => eb b ob hb e) f0 f1 f3 f4 f5⟩
  self := fun A i s Q E st h => by
    refine wpAny_pyIter_slot st.typeIs F.slot_dict_keyiterator_iter (wpAny_call_entry F.slot_dict_keyiterator_iter st.typeIs F.entry_dict_keyiterator_iter ?_ (F.args_dict_keyiterator_iter_1 _))
    show wpAny _ _ (ret (.ref it)) _ _ s
    exact wpAny_pure ⟨_, rfl, "dict_keyiterator", _, st.typeIs, F.slot_dict_keyiterator_next.lookup, h⟩
end
def iKeysX (td : TE) : TI := fun σ H R => td σ H fun x H1 => ∃ d o L, x = .ref d ∧ H1 d = some (.frz o (DXo d L)) ∧ R (Itx d o L) H1
theorem pi_keysX {X : Cx} {tg e : Expr} {td : TE} (he : PE X e td) : PI X tg e (iKeysX td) := by
  refine ⟨fun pins s σ H R I h => ?_⟩
  refine thn (he.run pins s σ H _ I h) fun u s1 ⟨x, H1, I1, rx, d, o, L, ex, hd, q⟩ => ?_
  subst ex
  obtain rfl : u = Value.ref d := rx
  obtain ⟨hs, hgd, hx, es, ep, hdt, hsz, ent⟩ := frzX I1 hd
  refine iter_keys hs hgd hx hdt (pi_one (tk := s1.toks) I1 _ (turn_keysX _ hdt) ⟨_, Heap.get?_push_size _ rfl, rfl, ?_⟩ q)
  rw [hsz] <;> rfl
abbrev tupK (k : List Int) : PyData := .tuple (k.map PyData.int)
theorem dxa_get {I : Hp} : ∀ {L : List Ent} {ks : List (List Int)} {ds : List PyData} {i : Nat} {k : List Int}, DxA I L ks ds → ks[i]? = some k → ∃ p : Ent, L[i]? = some p ∧ Dq I (.ref p.2.1) (tupK k)
  | _, _, _, _, _, .nil, e => by simp at e
  | _, _, _, 0, _, .cons h1 h2 t, e => by simp at e; subst e; exact ⟨_, rfl, h1⟩
  | _, _, _, i + 1, _, .cons _ _ t, e => by
    obtain ⟨p, h1, h2⟩ := dxa_get (i := i) t (by simpa using e)
    exact ⟨p, by simpa using h1, h2⟩
theorem it_keys {w : Bool} {I G : Hp} {d : Addr} {o : Obj} {L : List Ent} {ks : List (List Int)} {ds : List PyData} (h : G d = some (.frz o (DXo d L))) (r : DxA I L ks ds) : ItOk w I G (Itx d o L) (ks.map tupK) := fun I2 G2 H2 s1 s2 s3 s4 => by
  have e := s4 _ _ (s2 _ _ h)
  have hl : L.length = ks.length := by rw [← r.keys, List.length_map]
  refine ⟨fun i x hx => ?_, e, by rw [List.length_map, hl]; exact Nat.le_refl _⟩
  rw [List.getElem?_map] at hx
  cases hk : ks[i]? with
  | none => rw [hk] at hx; cases hx
  | some k =>
    rw [hk] at hx
    cases hx
    obtain ⟨p, hp, hq⟩ := dxa_get r hk
    have hi : i < L.length := by
      by_cases q : i < L.length
      · exact q
      · rw [List.getElem?_eq_none (by omega)] at hp
        cases hp
    refine ⟨⟨e, hi⟩, fun v H' ⟨e1, p', hp', ev⟩ => .inl ⟨e1, .inl ?_⟩⟩
    rw [hp] at hp'
    cases hp'
    rw [ev]
    exact dq_sub s1 _ _ hq
def dKeys (te : DE) : DI := fun Γ Q Ed => te Γ (fun x => match x.any with
  | .fz ks _ => Q (ks.map tupK)
  | _ => False) Ed
section
variable {X : Cx} {tw : Tw} {W : WX} {tg e : Expr} {da : DE} {w : Bool}
theorem vi_keys (h : VE X tw W e da) : VI X tw W w tg e (dKeys da) := PI.mono (pi_keysX h) fun σ H R ⟨F, own, Γ, Qd, Ed, ht, R0, q, k, kx⟩ => by
  refine lift_mk ht R0 kx q fun v H1 x R1 e1 r1 q1 => ?_
  split at q1
  · rename_i ks ds ex
    cases x with
    | c y =>
      cases ex
      obtain ⟨a, o, L, rfl, h1, h2⟩ := r1
      exact ⟨a, o, L, rfl, sub_hide _ _ h1, k _ _ _ R1 e1 (it_keys h1 h2) q1⟩
    | b y =>
      cases ex
      obtain ⟨_, _, _, _, h⟩ := r1
      exact h.elim
    | f y =>
      cases ex
      obtain ⟨_, _, _, _, h⟩ := r1
      exact h.elim
  · exact q1.elim
/-- return d: the dict is frozen -/
def dRetZ (te : DE) : DS := fun E Γ => te Γ (fun x => match x with
  | .b (.dct ks ds) => E.rt (.fz ks ds)
  | _ => False) (E.ex Γ)
def sRetZ (te : TE) : TS := fun D σ H => te σ H fun v H1 => ∃ d L, v = .ref d ∧ H1 d = some (DXo d L) ∧ ∀ o, D.rt v (upd H1 d (.frz o (DXo d L)))
theorem ps_retZ {te : TE} {pos : Pos} (he : PE X e te) : PS X (.Return (some e) pos) (sRetZ te) := by
  refine ⟨fun pins s σ H D I h => ?_⟩
  refine wpAny_Return_some (thn (he.run pins s σ H _ I h) fun v s1 ⟨x, H1, I1, r1, d, L, ev, hd, q1⟩ => ?_)
  subst ev
  obtain ⟨o, I2⟩ := I1.lock hd True.intro
  exact ⟨.ref d, σ, _, I2, r1, q1 o⟩
theorem Rel.freeze {F : Frm} {own : Nat → Option Addr} {Γ : List SV} {σ : L2.St} {H : Hp} {i : Nat} {p : Addr} {o : Obj} {L : List Ent} (R : Rel F own Γ σ H) (h : own i = some p) (hp : H p = some (DXo p L)) : Rel F (offO own i) (Γ.set i .un) σ (upd H p (.frz o (DXo p L))) ∧ Gr F own H (offO own i) (upd H p (.frz o (DXo p L))) := by
  obtain ⟨h1, h2, h3, h4⟩ := R.fr i p h
  have nt : ¬ F.tw.T p := fun t => h3 (R.ok.tx p t)
  have sb : Sub (vis F own H) (vis F (offO own i) (upd H p (.frz o (DXo p L)))) := fun a u e => by
    obtain ⟨e1, e2⟩ := of_hide e
    have ne : a ≠ p := fun z => e2 (.inr ⟨i, by rw [z]; exact h⟩)
    refine hide_of (by rw [upd_ne ne]; exact e1) fun z => e2 ?_
    rcases z with z | ⟨j, z⟩
    · exact .inl z
    · unfold offO at z
      split at z
      · cases z
      · exact .inr ⟨j, z⟩
  refine ⟨⟨R.ok, fun a u e n => ?_, fun a u e => ?_, R.ok.st H _ (fun a t => upd_ne fun z => nt (by rw [← z]; exact t)) (fun a q z => by rw [upd_ne (fun e => dx_code a q (Option.some.inj ((hp.symm.trans (by rw [← e])).trans z)))]; exact z) R.ti, fun a e => ?_, by rw [List.length_set]; exact R.len, fun j g hj => ?_, (R.unset (i := i)).inj, fun j q e => ?_⟩, sb⟩
  · rw [upd_ne fun z => by rw [z, h2] at e; cases e]
    exact R.ext a u e n
  · obtain ⟨u', q⟩ := R.bas a u e
    by_cases z : a = p
    · rw [z]
      exact ⟨_, upd_same⟩
    · exact ⟨u', by rw [upd_ne z]; exact q⟩
  · rw [upd_ne fun z => h3 (by rw [← z]; exact e)]
    exact R.x a e
  · by_cases e : j = i
    · subst e
      by_cases hi : j < Γ.length
      · rw [List.getElem?_set_self hi] at hj
        cases hj
        show offO own j j = none
        unfold offO
        rw [if_pos rfl]
      · rw [List.getElem?_eq_none (by rw [List.length_set]; omega)] at hj
        cases hj
    · rw [List.getElem?_set_ne (Ne.symm e)] at hj
      have q := R.sl j g hj
      have eo : offO own i j = own j := by unfold offO; rw [if_neg e]
      rw [eo]
      cases g with
      | un => exact q
      | d y =>
        obtain ⟨q1, v, q2, q3⟩ := q
        exact ⟨q1, v, q2, q3.sub sb⟩
      | o y =>
        obtain ⟨p', q1, q2, q3⟩ := q
        have ne : p' ≠ p := fun z => e (R.inj j i p (by rw [← z]; exact q1) h)
        exact ⟨p', q1, q2, q3.sub sb fun u hu => by rw [upd_ne ne]; exact hu⟩
  · obtain ⟨a1, a2, a3, a4⟩ := (R.unset (i := i)).fr j q e
    refine ⟨a1, a2, a3, ?_⟩
    by_cases z : q = p
    · exfalso
      unfold offO at e
      split at e
      · cases e
      · rename_i ne
        exact ne (R.inj j i p (by rw [← z]; exact e) h)
    · obtain ⟨u, a4, a5⟩ := a4
      exact ⟨u, by rw [upd_ne z]; exact a4, a5⟩
theorem retZ_sim {Dd : Ends} {σ : L2.St} {H : Hp} (h : liftS tw W (dRetZ da) Dd σ H) : sRetZ (lift tw W da) Dd σ H := by
  obtain ⟨F, own, Γ, E, ht, R, h, k⟩ := h
  refine lift_mk ht R (KS.kx R k) h fun v H1 x R1 e1 r1 q1 => ?_
  split at q1
  · rename_i ks ds
    obtain ⟨i, p, hi, rfl, L, hL, hA⟩ := r1
    refine ⟨p, L, rfl, hL, fun o => ?_⟩
    obtain ⟨R2, g2⟩ := R1.freeze (o := o) hi hL
    obtain ⟨h1, h2, h3, h4⟩ := R1.fr i p hi
    refine k.rt _ (.fz ks ds) _ _ _ _ R2 ((R.gr e1).trans g2) ⟨p, o, L, rfl, hide_of upd_same h3, hA.sub fun a u e => ?_⟩ q1
    obtain ⟨e5, e6⟩ := of_hide (g2 a u e)
    exact hide_of e5 fun z => e6 (.inl z)
  · exact q1.elim
theorem vs_retZ {pos : Pos} (he : VE X tw W e da) : VS X tw W (.Return (some e) pos) (dRetZ da) := PS.mono (ps_retZ he) fun _ _ _ => retZ_sim
end
end WL

set_option maxRecDepth 100000
set_option maxHeartbeats 1000000
namespace WL
open PySem PySem.Spec PyProof.Rows L2
/-! ### sorted(d), the keys of a dict -/
def rSortX : List V → Hp → VK → Prop := fun xs H Q => ∃ (a : Addr) (L : List Ent) (ks : List (List Int)) (ds : List PyData) (I : Hp), xs = [.ref a] ∧ Rd H a (DXo a L) ∧ Sub I H ∧ DxA I L ks ds ∧ PySem.W.Sortable (ks.map tupK) ∧ ks.length ≤ 100000 ∧
  ∀ p ws, H p = none → DqA I ws (srtD (ks.map tupK)) → Q (.ref p) (upd H p (.lst ws))
theorem reads_ints {h : Heap} : ∀ {k : List Int} {us : List Value}, Vals (k.map V.int) us → ReadsAll h us (k.map PyData.int) []
  | [], _, .nil => .nil
  | i :: k, _, .cons r t => by
    obtain ⟨tk, rfl⟩ := r
    exact ReadsAll.cons (as := []) (bs := []) (.int i tk) (reads_ints t)
theorem alike_tups (ks : List (List Int)) : PySem.W.AllAlike (ks.map tupK) := PySem.W.AllAlike.of fun b b' => by
  unfold PySem.W.alike
  exact PySem.W.alike_ints b b'
theorem each_keys {I H : Hp} {P : Program} {w : World} {h : Heap} (ok : HOk P w H h) (sb : Sub I H) : ∀ {L : List Ent} {ks : List (List Int)} {ds : List PyData}, DxA I L ks ds →
    PySem.W.EachIs (fun u (b : V × PyData) => RelV b.1 u ∧ Dq I b.1 b.2) (L.map fun p => Value.ref p.2.1) ((L.map fun p => V.ref p.2.1).zip (ks.map tupK)) ∧
    PySem.W.EachIs (fun u (b : V × PyData) => Reads h u b.2 []) (L.map fun p => Value.ref p.2.1) ((L.map fun p => V.ref p.2.1).zip (ks.map tupK))
  | _, _, _, .nil => ⟨.nil, .nil⟩
  | _, _, _, .cons (k := k) (q := q) h1 h2 t => by
    obtain ⟨i1, i2⟩ := each_keys ok sb t
    refine ⟨.cons ⟨rfl, h1⟩ i1, .cons ?_ i2⟩
    have h3 := dq_sub sb _ _ h1
    cases h3 with
    | @tup a o xs ds e1 e2 e3 =>
      rw [DqA.ints e3] at e1
      obtain ⟨_, _, its, rv, ob, g1, g2, n, g3⟩ := (show ObjOk P w H h q (.frz _ (.tup (k.map V.int))) from ok q _ e1)
      exact .tuple g1 g2 g3 (by simpa using reads_ints rv)
theorem call_sortX {X : Cx} (hc : X.calm = true) (hu : X.A.units + 64 < cLine) : CallR X (.builtin "sorted") rSortX := by
  intro pins s σ H xs us Q J r h
  obtain ⟨a, L, ks, ds, I, rfl, ha, sb, hd, h2, h3, q⟩ := h
  obtain ⟨u, rfl, rx⟩ := vals1 r
  obtain rfl : u = .ref a := rx
  obtain ⟨z, hs, nd, xs, pr, o, es, ep, ho, hx, hdt, he⟩ := dx_get J.hok ha
  have he := he X.prog X.w
  have l1 : es.size = xs.length := size_of_entries he
  have l2 : L.length = xs.length := Paired.length pr
  have l3 : L.length = ks.length := by rw [← hd.keys, List.length_map]
  refine Calls.call_function_entry kind_sorted plain_sorted entry_sorted (args_sorted1 _) ?_
  unfold Builtin.«sorted»
  refine wpAny_bind (m := checkCount "sorted" 1 1 _) (wpAny_pure ?_)
  refine wpAny_bind (PySem.W.kdu_collect (A := X.A.in1) (kdl_raw hs hx hdt) (J.ok.hd hc) ho (by omega) fun h' tk acc hk hacc => ?_)
  have hl : acc.toList.length = L.length := by rw [Array.length_toList, hacc.1]; omega
  have ea : acc.toList = L.map fun p => Value.ref p.2.1 := by
    apply List.ext_getElem?
    intro j
    rw [List.getElem?_map]
    cases hj : acc.toList[j]? with
    | none =>
      have h1 := List.getElem?_eq_none_iff.mp hj
      rw [List.getElem?_eq_none (by omega)]
      rfl
    | some v =>
      obtain ⟨en, hen, hv⟩ := hacc.2 j v (by rw [← Array.getElem?_toList]; exact hj)
      have hjl : j < L.length := by
        by_cases c : j < acc.toList.length
        · omega
        · rw [List.getElem?_eq_none (by omega)] at hj
          cases hj
      obtain ⟨p, hp⟩ : ∃ p, L[j]? = some p := ⟨L[j], List.getElem?_eq_getElem hjl⟩
      obtain ⟨b, hb, e1, e2, _⟩ := paired_get pr hp
      have qe := entry_at he j
      rw [hen, hb] at qe
      have e3 := Option.some.inj qe
      rw [hp, hv, e3]
      show some (Value.ref b.2.1) = some (Value.ref p.2.1)
      rw [e2]
  have J1 : Inv X pins σ H { s with heap := h', toks := tk } := J.kept hk
  refine wpAny_bind (wpAny_newList ?_ (by rw [hl, l3, sizeLine_eq]; omega))
  obtain ⟨e1, e2⟩ := each_keys J1.hok sb hd
  have em : ((L.map fun p => V.ref p.2.1).zip (ks.map tupK)).map (fun b => b.2) = ks.map tupK := zip_snd (by rw [List.length_map, List.length_map, l3])
  have el : ((L.map fun p => V.ref p.2.1).zip (ks.map tupK)).length = ks.length := by rw [← List.length_map (as := (L.map fun p => V.ref p.2.1).zip (ks.map tupK)) (fun b => b.2), em, List.length_map]
  have hp2 : (h'.push { cls := .type "list", data := .seq acc.toList.toArray }).get? h'.objs.size = some (seqObj "list" acc.toList.toArray 0) := Heap.get?_push_size _ rfl
  have kp : ∀ b u, h'.get? b = some u → (h'.push { cls := .type "list", data := .seq acc.toList.toArray }).get? b = some u := fun b u e => Heap.get?_push_of_some _ e
  rw [← ea] at e1 e2
  refine wpAny_bind (wpAny_holding (wpAny_mono (PySem.W.list_sort_data (A := X.A.in1) (Q := fun _ s' => EP X pins σ Q (.ref h'.objs.size) s') (s := { s with heap := h'.push { cls := .type "list", data := .seq acc.toList.toArray }, toks := tk }) (a := h'.objs.size) (n := 0) (vs := acc.toList) (enc := fun b : V × PyData => b.2) hp2 e1
    (PySem.W.EachIs.mono (fun u b hh => ⟨[], PyProof.Rows.Reads.keeps kp hh, fun z => nomatch z⟩) e2) (by rw [em]; exact alike_tups ks) (by rw [em]; exact h2) (by rw [el, sizeLine_eq]; omega) (fun b hb => ?_) fun out ho2 eo => ?_) (fun _ s' x => wpAny_pure ⟨_, rfl, x⟩) fun _ _ e => e))
  · have hb2 : b.2 ∈ ks.map tupK := by rw [← em]; exact List.mem_map.mpr ⟨b, hb, rfl⟩
    obtain ⟨k, _, ek⟩ := List.mem_map.mp hb2
    have hd1 : b.2.depth = 1 := by
      rw [← ek]
      show PyData.depthAll (k.map PyData.int) + 1 = 1
      rw [PySem.W.depth_ints]
    show X.A.units + 1 + 1 + b.2.depth < cLine
    omega
  · obtain ⟨c, hc2⟩ := PyProof.Rows.sortedHeap_at (out := out.toArray) hp2
    obtain ⟨o1, o2⟩ := each_out eo
    have es2 : ((((L.map fun p => V.ref p.2.1).zip (ks.map tupK)).mergeSort (PySem.W.dataLe false fun b : V × PyData => b.2)).map fun b => b.2) = srtD (ks.map tupK) := by
      have z := List.map_mergeSort (r := PySem.W.dataLe false fun b : V × PyData => b.2) (s := PySem.W.dataLe false (id : PyData → PyData)) (f := fun b : V × PyData => b.2) (l := (L.map fun p => V.ref p.2.1).zip (ks.map tupK)) (fun a _ b _ => rfl)
      rw [em] at z
      exact z
    rw [es2] at o2
    refine ⟨.ref h'.objs.size, _, J1.laid (t' := tk) (o := .lst _) (fun b u e => ?_) (Nat.le_refl _) ⟨?_, out, c, o1, hc2⟩, rfl, q _ _ (J1.hok.fresh (Nat.le_refl _)) o2⟩
    · have hb := Heap.lt_size e
      rw [PyProof.Rows.sortedHeap_old (Nat.ne_of_lt hb) (Heap.lt_size (kp b u e))]
      exact kp b u e
    · rw [o1.length, ho2, el, sizeLine_eq]
      omega
/-- sorted(t), a tuple of data -/
def rSortT : List V → Hp → VK → Prop := fun xs H Q => ∃ (a : Addr) (o : Obj) (vs : List V) (ds : List PyData) (I : Hp), xs = [.ref a] ∧ H a = some (.frz o (.tup vs)) ∧ Sub I H ∧ DqA I vs ds ∧ PySem.W.AllAlike ds ∧ PySem.W.Sortable ds ∧ ds.length ≤ 100000 ∧ (∀ d ∈ ds, d.depth ≤ 50) ∧
  ∀ p ws, H p = none → DqA I ws (srtD ds) → Q (.ref p) (upd H p (.lst ws))
/-- a list is new: nothing that it holds leads to it -/
theorem reads_fresh {h : Heap} {a : Addr} (n : ∀ o, h.get? a ≠ some o) : (∀ (d : PyData) (u : Value) (as : List Addr), Reads h u d as → a ∉ as) := fun d u as r hm => by
  obtain ⟨o, ho⟩ := PyProof.On.reads_mem_get r a hm
  exact n o ho
theorem call_sortT {X : Cx} (hc : X.calm = true) (hu : X.A.units + 64 < cLine) : CallR X (.builtin "sorted") rSortT := by
  intro pins s σ H xs us Q J r h
  obtain ⟨a, ob, vs, ds, I, rfl, ha, sb, hd, h1, h2, h3, h4, q⟩ := h
  obtain ⟨u, rfl, rx⟩ := vals1 r
  obtain rfl : u = .ref a := rx
  obtain ⟨_, hz, its, rv, o, ho, hcl, n, hdt⟩ := (show ObjOk X.prog X.w H s.heap a (.frz ob (.tup vs)) from J.hok a _ ha)
  obtain ⟨e1, e2⟩ := each_zip (P := X.prog) J sb hd rv
  have em : (vs.zip ds).map (fun b => b.2) = ds := zip_snd hd.length
  have el : (vs.zip ds).length = ds.length := by rw [← em, List.length_map, em]
  have hil : its.length = ds.length := by rw [← rv.length, hd.length]
  refine Calls.call_function_entry kind_sorted plain_sorted entry_sorted (args_sorted1 _) ?_
  unfold Builtin.«sorted»
  refine wpAny_bind (m := checkCount "sorted" 1 1 _) (wpAny_pure ?_)
  refine wpAny_bind (wpAny_collect_seq (A := X.A.in1) (n := n) (items := its.toArray) a (.inr rfl) ho hcl hdt (fun h' hk => ?_) (by rw [List.size_toArray, hil, sizeLine_eq]; omega))
  have J1 : Inv X pins σ H { s with heap := h' } := J.kept (t' := s.toks) hk
  refine wpAny_bind (wpAny_newList ?_ (by rw [List.toList_toArray, hil, sizeLine_eq]; omega))
  have hp2 : (h'.push { cls := .type "list", data := .seq its.toArray.toList.toArray }).get? h'.objs.size = some (seqObj "list" its.toArray 0) := Heap.get?_push_size _ rfl
  have kp : ∀ b u, h'.get? b = some u → (h'.push { cls := .type "list", data := .seq its.toArray.toList.toArray }).get? b = some u := fun b u e => Heap.get?_push_of_some _ e
  have fr : ∀ o, h'.get? h'.objs.size ≠ some o := fun o e => absurd (Heap.lt_size e) (Nat.lt_irrefl _)
  have e3 : PySem.W.EachIs (fun u (b : V × PyData) => ∃ as, Reads (h'.push { cls := .type "list", data := .seq its.toArray.toList.toArray }) u b.2 as ∧ h'.objs.size ∉ as) its (vs.zip ds) := PySem.W.EachIs.mono (fun u b ⟨as, hh⟩ => by
    have hh' : Reads h' u b.2 as := PyProof.Rows.Reads.keeps hk hh
    exact ⟨as, PyProof.Rows.Reads.keeps kp hh', reads_fresh fr _ _ _ hh'⟩) e2
  refine wpAny_bind (wpAny_holding (wpAny_mono (PySem.W.list_sort_data (A := X.A.in1) (Q := fun _ s' => EP X pins σ Q (.ref h'.objs.size) s') (s := { s with heap := h'.push { cls := .type "list", data := .seq its.toArray.toList.toArray } }) (a := h'.objs.size) (n := 0) (vs := its) (enc := fun b : V × PyData => b.2) hp2 e1
    e3 (by rw [em]; exact h1) (by rw [em]; exact h2) (by rw [el, sizeLine_eq]; omega) (fun b hb => ?_) fun out ho2 eo => ?_) (fun _ s' x => wpAny_pure ⟨_, rfl, x⟩) fun _ _ e => e))
  · have := h4 b.2 (by rw [← em]; exact List.mem_map.mpr ⟨b, hb, rfl⟩)
    show X.A.units + 1 + 1 + b.2.depth < cLine
    omega
  · obtain ⟨c, hc2⟩ := PyProof.Rows.sortedHeap_at (out := out.toArray) hp2
    obtain ⟨o1, o2⟩ := each_out eo
    have es2 : (((vs.zip ds).mergeSort (PySem.W.dataLe false fun b : V × PyData => b.2)).map fun b => b.2) = srtD ds := by
      have z := List.map_mergeSort (r := PySem.W.dataLe false fun b : V × PyData => b.2) (s := PySem.W.dataLe false (id : PyData → PyData)) (f := fun b : V × PyData => b.2) (l := vs.zip ds) (fun a _ b _ => rfl)
      rw [em] at z
      exact z
    rw [es2] at o2
    refine ⟨.ref h'.objs.size, _, J1.laid (t' := s.toks) (o := .lst _) (fun b u e => ?_) (Nat.le_refl _) ⟨?_, out, c, o1, hc2⟩, rfl, q _ _ (J1.hok.fresh (Nat.le_refl _)) o2⟩
    · have hb := Heap.lt_size e
      rw [PyProof.Rows.sortedHeap_old (Nat.ne_of_lt hb) (Heap.lt_size (kp b u e))]
      exact kp b u e
    · rw [o1.length, ho2, el, sizeLine_eq]
      omega
/-- sorted of a list or of a dict's keys -/
def gSortA : GC := fun xs Q => match xs with
  | [x] => (match x.any with
    | .p (.list ds) => PySem.W.AllAlike ds ∧ PySem.W.Sortable ds ∧ ds.length ≤ 100000 ∧ (∀ d ∈ ds, d.depth ≤ 50) ∧ Q (.f (.p (.list (srtD ds))))
    | .p (.tuple ds) => PySem.W.AllAlike ds ∧ PySem.W.Sortable ds ∧ ds.length ≤ 100000 ∧ (∀ d ∈ ds, d.depth ≤ 50) ∧ Q (.f (.p (.list (srtD ds))))
    | e => (match e.isD with
      | some (ks, _) => PySem.W.Sortable (ks.map tupK) ∧ ks.length ≤ 100000 ∧ Q (.f (.p (.list (srtD (ks.map tupK)))))
      | none => False))
  | _ => False
theorem sim_sortA : SimC (fun xs H Q => rSortD xs H Q ∨ rSortX xs H Q ∨ rSortT xs H Q) gSortA := fun F own Γ σ H vs xs Qd Q R rs q k => by
  unfold gSortA at q
  split at q
  · cases rs with
    | cons r rn =>
      cases rn
      split at q
      · rename_i ds ex
        obtain ⟨aa, ws, rfl, ha, hd⟩ := r.lst ex
        exact .inl ⟨aa, ws, ds, _, rfl, ha, sub_hide, hd, q.1, q.2.1, q.2.2.1, q.2.2.2.1, fun p zs np hz => k _ _ _ (R.new np) (ext_new np) (R.newL np hz) q.2.2.2.2⟩
      · rename_i ds ex
        obtain ⟨aa, ob, ws, rfl, ha, _, hd⟩ := r.tup ex
        exact .inr (.inr ⟨aa, ob, ws, ds, _, rfl, (of_hide ha).1, sub_hide, hd, q.1, q.2.1, q.2.2.1, q.2.2.2.1, fun p zs np hz => k _ _ _ (R.new np) (ext_new np) (R.newL np hz) q.2.2.2.2⟩)
      · split at q
        · rename_i ks ds ex
          obtain ⟨aa, L, rfl, ha, hd⟩ := r.dic ex
          exact .inr (.inl ⟨aa, L, ks, ds, _, rfl, ha, sub_hide, hd, q.1, q.2.1, fun p zs np hz => k _ _ _ (R.new np) (ext_new np) (R.newL np hz) q.2.2⟩)
        · exact q.elim
  · exact q.elim
section
variable {X : Cx} {tw : Tw} {W : WX} {e : Expr} {t : DA} {pos p : Pos}
theorem ve_sortA {k : Nat} (B : Blt X.mg) (hc : X.calm = true) (hr : Room k X.A) (hg : Gl X "sorted") (ha : VA X tw W [e] t) (hA : ArgsOk X pos e [] := by exact ⟨rfl, rfl⟩) : VE X tw W (.Call (.Name "sorted" p) [e] [] pos) (dCB gSortA t) := ve_callB ((call_sortD hr.units).or ((call_sortX hc hr.units).or (call_sortT hc hr.units))) sim_sortA hg B.sorted bb_sorted ha (hA := hA)
end
end WL

set_option maxRecDepth 100000
set_option maxHeartbeats 1000000
namespace WL
open PySem PySem.Spec PyProof.Rows L2
section
variable {X : Cx} {tw : Tw} {W : WX} {e : Expr} {da : DE} {pos pos' : Pos}
/-- y = xs.pop(0) -/
theorem vs_pop0 {i j : Nat} {x y : Str} {px py apos cpos cp : Pos} {kk : Nat} (hN : X.N.Nodup) (hj : X.N[j]? = some y) (hy : Loc X.env.scope y) (hx : PE X (.Name x px) (tVar i)) (hline : (apos.endLine == cpos.line) = true := by rfl)
    (hfew : ((backTo cpos (starEach [.Constant (.int 0) kk cp] X.env)).all (fun x => !x.1) && (backToKw cpos (keywordEach [] X.env)).all (fun x => x.1.isSome) && decide ([(.Constant (.int 0) kk cp : Expr)].length + ([] : List Keyword).length + (if ([] : List Keyword).isEmpty then 0 else 1) < 30)) = true := by rfl)
    (hs : swapsWith (.Call (.Attribute (.Name x px) "pop" apos) [.Constant (.int 0) kk cp] [] cpos) (some (.Name y py)) pos.line X.env = pure false := by rfl)
    (hf : X.fn y = true ∨ X.env.scope.names.lookup y = some .local := by first | exact .inl rfl | exact .inr rfl | assumption) :
    VS X tw W (.Assign [.Name y py] (.Call (.Attribute (.Name x px) "pop" apos) [.Constant (.int 0) kk cp] [] cpos) pos) (dPop0 j i) :=
  PS.mono (ps_set hN hj hy (pe_bm PySem.F.plainAttrs_list PySem.F.slot_list_pop PySem.F.type_list_pop mt_popAt hx (pa_cons pe_int pa_nil rfl) rfl hfew hline rfl rfl) hs hf) fun _ _ _ => pop0_sim
/-- y = xs.pop() -/
theorem vs_popL {i j : Nat} {x y : Str} {px py apos cpos : Pos} (hN : X.N.Nodup) (hj : X.N[j]? = some y) (hy : Loc X.env.scope y) (hx : PE X (.Name x px) (tVar i)) (hline : (apos.endLine == cpos.line) = true := by rfl)
    (hs : swapsWith (.Call (.Attribute (.Name x px) "pop" apos) [] [] cpos) (some (.Name y py)) pos.line X.env = pure false := by rfl)
    (hf : X.fn y = true ∨ X.env.scope.names.lookup y = some .local := by first | exact .inl rfl | exact .inr rfl | assumption) :
    VS X tw W (.Assign [.Name y py] (.Call (.Attribute (.Name x px) "pop" apos) [] [] cpos) pos) (dPopL j i) :=
  PS.mono (ps_set hN hj hy (pe_bm0 PySem.F.plainAttrs_list PySem.F.slot_list_pop PySem.F.type_list_pop mt_pop hx rfl hline) hs hf) fun _ _ _ => popL_sim
/-- xs[::-1] -/
def dRev (te : DE) : DE := fun Γ Q Ed => te Γ (fun x => match x.any with
  | .p (.list ds) => Q (.f (.p (.list ds.reverse)))
  | _ => False) Ed
theorem ve_rev {k : Nat} {p1 p2 p3 : Pos} (he : VE X tw W e da) : VE X tw W (.Subscript e (.Slice none none (some (.UnaryOp .USub (.Constant (.int 1) k p1) p2)) p3) pos) (dRev da) := PE.mono (pe_revL he) fun σ H Q ⟨F, own, Γ, Qd, Ed, ht, R, h, k, kx⟩ => by
  refine lift_mk ht R kx h fun v H1 x R1 e1 r1 q1 => ?_
  split at q1
  · rename_i ds ex
    obtain ⟨a, vs, rfl, ha, hd⟩ := r1.lst ex
    exact ⟨a, vs, rfl, .of ha, fun p np => k _ _ _ (R1.new np) (e1.trans (ext_new np)) (R1.newL np hd.reverse) q1⟩
  · exact q1.elim
end
end WL

set_option maxRecDepth 100000
set_option maxHeartbeats 1000000
namespace WL
open PySem PySem.Spec PyProof.Rows L2
/-! ### min(xs) of a list -/
def rMinD : List V → Hp → VK → Prop := fun xs H Q => ∃ (a : Addr) (vs : List V) (d : PyData) (ds : List PyData) (I : Hp), xs = [.ref a] ∧ H a = some (.lst vs) ∧ Sub I H ∧ DqA I vs (d :: ds) ∧ PySem.W.AlikeAll (d :: ds) ∧ PyData.depthAll (d :: ds) ≤ 50 ∧
  ∀ v, Dq I v (PySem.W.minD d ds) → Q v H
theorem call_minD {X : Cx} (hc : X.calm = true) (hu : X.A.units + 64 < cLine) : CallR X (.builtin "min") rMinD := by
  intro pins s σ H xs us Q J r h
  obtain ⟨a, vs, d, ds, I, rfl, ha, sb, hd, h1, h2, q⟩ := h
  obtain ⟨u, rfl, rx⟩ := vals1 r
  obtain rfl : u = .ref a := rx
  obtain ⟨its, rv, pl, hz⟩ := J.list (SqL.of ha)
  obtain ⟨as, hr⟩ := Dp.readsAll (X := X) J (d :: ds) vs its (dqA_dp _ _ (dqA_sub sb _ _ hd)) rv
  refine PySem.W.min_list_data (J.ok.hd hc) pl.isList (by simpa using hr) h1 (by omega) fun i v h' tk bs hi hm hk => ?_
  have hi' : its[i]? = some v := by simpa using hi
  have hlen := rv.length
  have hil : i < vs.length := by
    by_cases c : i < its.length
    · omega
    · rw [List.getElem?_eq_none (by omega)] at hi'
      cases hi'
  obtain ⟨w, hw⟩ : ∃ w, vs[i]? = some w := ⟨vs[i], List.getElem?_eq_getElem hil⟩
  obtain ⟨e, he, re⟩ := hd.getV hw
  have rvw : RelV w v := by
    obtain ⟨u2, hu2, r2⟩ := Vals.get rv hw
    rw [hi'] at hu2
    cases hu2
    exact r2
  have J1 : Inv X pins σ H { s with heap := h', toks := tk } := J.kept hk
  obtain ⟨cs, hr2⟩ := Dp.reads (X := X) J1 e w v (dq_dp _ _ (dq_sub sb _ _ re)) rvw
  have eq := (PySem.Reads.unique hr2 _ _ hm).1
  rw [eq] at re
  exact ⟨w, H, J1, rvw, q w re⟩
def gMinL : GC := fun xs Q => match xs with
  | [x] => (match x.any with
    | .p (.list (d :: ds)) => PySem.W.AlikeAll (d :: ds) ∧ PyData.depthAll (d :: ds) ≤ 50 ∧ Q (.c (.p (PySem.W.minD d ds)))
    | _ => False)
  | _ => False
theorem sim_minL : SimC rMinD gMinL := fun F own Γ σ H vs xs Qd Q R rs q k => by
  unfold gMinL at q
  split at q
  · cases rs with
    | cons r rn =>
      cases rn
      split at q
      · rename_i d ds ex
        obtain ⟨aa, ws, rfl, ha, hd⟩ := r.lst ex
        exact ⟨aa, ws, d, ds, _, rfl, ha, sub_hide, hd, q.1, q.2.1, fun v hv => k.dat R hv q.2.2⟩
      · exact q.elim
  · exact q.elim
section
variable {X : Cx} {tw : Tw} {W : WX} {e : Expr} {t : DA} {pos p : Pos}
theorem ve_minL {k : Nat} (B : Blt X.mg) (hc : X.calm = true) (hr : Room k X.A) (hg : Gl X "min") (ha : VA X tw W [e] t) (hA : ArgsOk X pos e [] := by exact ⟨rfl, rfl⟩) : VE X tw W (.Call (.Name "min" p) [e] [] pos) (dCB gMinL t) := ve_callB (call_minD hc hr.units) sim_minL hg B.min bb_min ha (hA := hA)
end
end WL

set_option maxRecDepth 100000
set_option maxHeartbeats 1000000
namespace WL
open PySem PySem.Spec PyProof.Rows L2
/-! ### x < y of data -/
section
variable {X : Cx} {tw : Tw} {W : WX} {a b : Expr} {da db : DE} {pos : Pos}
def rLtP : R2 := fun x y H Q => ∃ d e, Dq H x d ∧ Dq H y e ∧ PySem.W.alike d e = true ∧ d ≠ .none ∧ d.depth ≤ 60 ∧ Q (.bl (PySem.W.dataLt d e)) H
theorem op_ltP (hu : X.A.units + 64 < cLine) : OpR X (compareOp .Lt) rLtP := by
  intro pins s σ H x y v u Q I rx ry h
  obtain ⟨d, e, hd, he, o1, o2, o3, q⟩ := h
  obtain ⟨as, r1⟩ := Dp.reads (X := X) I d x v (dq_dp d _ hd) rx
  obtain ⟨bs, r2⟩ := Dp.reads (X := X) I e y u (dq_dp e _ he) ry
  exact PySem.W.lt_data r1 r2 o1 o2 (by omega) ⟨.bl _, H, I, rfl, q⟩
def gLtP : G2 := fun x y Q => match x.any, y.any with
  | .p d, .p e => PySem.W.alike d e = true ∧ d ≠ .none ∧ d.depth ≤ 60 ∧ Q (.c (dB (PySem.W.dataLt d e)))
  | _, _ => False
theorem sim_ltP : Sim2 rLtP gLtP := fun F own Γ σ H v u x y Qd Q R r1 r2 q k => by
  unfold gLtP at q
  split at q
  · rename_i d e e1 e2
    have h1 := r1.any
    have h2 := r2.any
    rw [e1] at h1
    rw [e2] at h2
    exact ⟨d, e, h1, h2, q.1, q.2.1, q.2.2.1, k.dat R (.bl _) q.2.2.2⟩
  · exact q.elim
theorem ve_ltP {k : Nat} (hr : Room k X.A) (ha : VE X tw W a da) (hb : VE X tw W b db) : VE X tw W (.Compare a [.Lt] [b] pos) (dOp gLtP da db) := ve_cmp (op_ltP hr.units) sim_ltP ha hb
theorem vt_ltP {k : Nat} (hr : Room k X.A) (ha : VE X tw W a da) (hb : VE X tw W b db) : VT X tw W (.Compare a [.Lt] [b] pos) (dTest (dOp gLtP da db)) := vt_cmp (op_ltP hr.units) sim_ltP ha hb
end
/-! ### enumerate(t), t a tuple -/
theorem meets_enumT (a : Addr) (items : Array Value) :
    Meets (Builtin.«enumerate.__new__» ⟨[.type "enumerate", .ref a], []⟩) (fun _ R s => s.heap.IsTuple a items ∧
      R (.ok (.ret (.ref (s.heap.push { cls := .type "tuple_iterator", data := .fields #[.ref a, .int 0 0] }).objs.size)))
        { s with heap := (s.heap.push { cls := .type "tuple_iterator", data := .fields #[.ref a, .int 0 0] }).push { cls := .type "enumerate", data := .fields #[.none, .bool false, .ref s.heap.objs.size, rawInt 0, .none, .none] } }) :=
  .of_wp fun prog w A R s h => by
    obtain ⟨hp, g, d, tk, os⟩ := s; obtain ⟨hl, h⟩ := h
    have hsub := sub_enumerate
    have q1 : ∀ {A' : Around} {E : Value → Shared → Prop} {Q : Value → Shared → Prop}, Q (.ref hp.objs.size) ⟨hp.push { cls := .type "tuple_iterator", data := .fields #[.ref a, .int 0 0] }, g, d, tk, os⟩ → wpAny (model prog w) A' (pyIter (.ref a)) Q E ⟨hp, g, d, tk, os⟩ :=
      fun q => wpAny_pyIter_tuple (s := ⟨hp, g, d, tk, os⟩) hl q
    wp_walk using q1
    refine wpAny_stack_any fun st => wpAny_pure ?_
    split
    · rename_i c _ _ _ _ _
      cases (c == Value.type "enumerate")
      · wp_walk using q1
        exact ⟨_, rfl, h⟩
      · wp_walk using q1
        exact ⟨_, rfl, h⟩
    · wp_walk using q1
      exact ⟨_, rfl, h⟩
section
variable {prog : Program} {w : World} {A : Around} {E : Value → Shared → Prop} {s : Shared}
theorem call_enumT {a : Addr} {items : Array Value} {Q : Value → Shared → Prop} (hL : s.heap.IsTuple a items)
    (h : ∀ h', IsEnum h' (s.heap.objs.size + 1) s.heap.objs.size 0 .none → h'.IsTupleIter s.heap.objs.size a 0 → h'.objs.size = s.heap.objs.size + 2 →
      (∀ b o, s.heap.get? b = some o → h'.get? b = some o) → Q (.ref (s.heap.objs.size + 1)) { s with heap := h' }) :
    wpAny (model prog w) A (call (.type "enumerate") [.ref a]) Q E s := by
  refine callType_new F.called_enumerate (by decide) (F.typeCall_enumerate_1 _) (F.newCall_enumerate_1 _) (fun obj => F.args_object_init_2 obj _) F.entry_enumerate_new
    (meets_enumT a items) ⟨hL, ?_⟩
  have hz : (s.heap.push { cls := .type "tuple_iterator", data := .fields #[.ref a, .int 0 0] }).objs.size = s.heap.objs.size + 1 := Heap.size_push ..
  show _ ∧ _
  rw [hz]
  have he : IsEnum ((s.heap.push { cls := .type "tuple_iterator", data := .fields #[.ref a, .int 0 0] }).push
      { cls := .type "enumerate", data := .fields #[.none, .bool false, .ref s.heap.objs.size, rawInt 0, .none, .none] }) (s.heap.objs.size + 1) s.heap.objs.size 0 .none := by
    have := Heap.get?_push_size (s.heap.push { cls := .type "tuple_iterator", data := .fields #[.ref a, .int 0 0] })
      (o := { cls := .type "enumerate", data := .fields #[.none, .bool false, .ref s.heap.objs.size, rawInt 0, .none, .none] }) rfl
    rw [hz] at this; exact this
  refine ⟨⟨_, he, rfl⟩, h _ he ⟨_, Heap.get?_push_of_some _ (Heap.get?_push_size _ rfl), rfl, rfl⟩ (by rw [Heap.size_push, hz]) fun b o x => Heap.get?_push_of_some _ (Heap.get?_push_of_some _ x)⟩
end
theorem pyNext_enumT_end {prog : Program} {w : World} {A : Around} {E : Value → Shared → Prop} {s : Shared} {e it a : Addr} {i : Nat} {k : Int} {items : Array Value} {old : Value} {Q : Option Value → Shared → Prop} (hh : A.in1.handled = none)
    (he : IsEnum s.heap e it k old) (hit : s.heap.IsTupleIter it a i) (ht : s.heap.IsTuple a items) (hx : items[i]? = none) (hQ : ∀ h', Heap.ExtBut it s.heap h' → Q none { s with heap := h' }) : wpAny (model prog w) A (pyNext (.ref e)) Q E s := by
  have hT : s.TypeIs (.ref e) "enumerate" := ⟨_, he, rfl⟩
  unfold pyNext
  refine wpAny_bind (wpAny_attempt (wpAny_callSpecial?_slot (name := Str.ofString "__next__") hT F.slot_enumerate_next (wpAny_call_entry F.slot_enumerate_next hT F.entry_enumerate_next ?_ (F.args_enumerate_next_1 _))))
  show wpAny _ _ (field (.ref e) 2 >>= _) _ _ _
  refine wpAny_bind (wpAny_field he rfl (x := .ref it) rfl (wpAny_bind (wpAny_nextOf_tuple_end hh hit ht hx fun h' x he' ⟨o, ho, hc⟩ => ?_)))
  exact wpAny_bind (wpAny_isInstance (T := "StopIteration") (b := true) ⟨o, ho, hc⟩ isSubtype_stop (wpAny_pure (hQ _ he')))
def IteT (K : PySem.W.Frag) (a : Addr) : It :=
  ⟨fun i H => ∃ (xs : List V) (x : V), SqT K H a xs ∧ xs[i]? = some x, fun i H v H' => ∃ T x, v = .ref T ∧ H T = none ∧ H' = upd H T (.tup [.int (i : Nat), x]) ∧ ∀ xs, SqT K H a xs → xs[i]? = some x, fun i H => ∃ xs : List V, SqT K H a xs ∧ xs.length ≤ i⟩
theorem turn_enumT {P : Program} {w : World} {K : PySem.W.Frag} {elts : List Expr} {kk : Nat} {tpos : Pos} (a e it : Addr) (hae : a ≠ it) (hae2 : a ≠ e) :
    Turn P w K (.Tuple elts kk tpos) (IteT K a) [e, it] e (fun i h => (∃ old, IsEnum h e it ((i : Nat) : Int) old) ∧ h.IsTupleIter it a i ∧ e ≠ it) where
  mem := by simp
  obj := fun i h st b hb => by
    obtain ⟨⟨old, he⟩, ⟨o, ho, hc, hd⟩, _⟩ := st
    have e' : b = e ∨ b = it := by simpa using hb
    rcases e' with z | z
    · rw [z]; exact ⟨_, he, fun v q => nomatch q⟩
    · rw [z]; exact ⟨o, ho, fun v q => by rw [hd] at q; cases q⟩
  keep := fun i h h' st k => let ⟨⟨old, he⟩, hi, hne⟩ := st; ⟨⟨old, k e (by simp) _ he⟩, hi.at fun o q => k it (by simp) o q, hne⟩
  item := by
    intro X hP hw hK hc i pins s σ H E I hf st hg
    subst hP hw hK
    obtain ⟨⟨old, he⟩, hit, hne⟩ := st
    obtain ⟨xs, x, hq, hx⟩ := hg
    obtain ⟨its, rv, p, hz⟩ := I.tuple hq
    obtain ⟨u, hu, ru⟩ := rv.get hx
    have hel : e < s.heap.objs.size := Heap.lt_size he
    have hil : it < s.heap.objs.size := by obtain ⟨_, q, _⟩ := hit; exact Heap.lt_size q
    have hil2 : i < its.toArray.size := by
      have := rv.length
      by_cases q : i < its.length
      · simpa using q
      · rw [List.getElem?_eq_none (by omega)] at hu
        cases hu
    have hd1 : X.A.in1.handled = none := I.ok.hd hc
    have D := Draws.tuple (prog := X.prog) (w := X.w) hd1 it a hae its.toArray
    refine wpAny_pyNext_enum_itemD D he ⟨hit, p⟩ hil2 hne (by simp [hne, Ne.symm hae2]) fun u' h' tk hu' ho hit' hT hsz hk => ?_
    obtain ⟨hit', _⟩ := hit'
    have eu : u' = u := by
      have h1 : its[i]? = some u' := by simpa using hu'
      rw [hu] at h1
      exact (Option.some.inj h1).symm
    subst eu
    refine ⟨_, rfl, wpAny_letOwnedTupleGo_enum (s := { s with heap := h', toks := tk + 1 }) ho fun h'' he' sb => ?_⟩
    have hT2 : h''.get? s.heap.objs.size = some { cls := .type "tuple", data := .seq #[.int i tk, u'] } := (sb.2 _ (Nat.ne_of_gt hel)).trans hT
    have new : ObjOk X.prog X.w (upd H s.heap.objs.size (.tup [.int (i : Nat), x])) h'' s.heap.objs.size (.tup [.int (i : Nat), x]) :=
      ⟨by show 2 ≤ sizeLine; decide, [.int i tk, u'], .cons ⟨_, rfl⟩ (.cons ru .nil), ⟨_, hT2, rfl, _, rfl⟩⟩
    have I1 : Inv X pins σ (upd H s.heap.objs.size (.tup [.int (i : Nat), x])) { s with heap := h'', toks := tk + 1 } :=
      I.turnedNew (ch := [e, it]) (fun b ob hb q => (sb.2 b (fun z => hb (by simp [z]))).trans (hk b ob (fun z => hb (by simp [z])) (fun z => hb (by simp [z])) q)) hf (Nat.le_refl _) new
    refine ⟨.ref s.heap.objs.size, _, I1, rfl, ⟨_, x, rfl, I.hok.fresh (Nat.le_refl _), rfl, fun ys hy => by rw [I.tuple_inj hy hq]; exact hx⟩, ⟨⟨u', ?_⟩, hit'.at fun o q => (sb.2 it (Ne.symm hne)).trans q, hne⟩, fun b hb => ?_⟩
    · have e1 : ((i + 1 : Nat) : Int) = (i : Int) + 1 := by omega
      rw [e1]; exact he'
    · have hb' : b < s.heap.objs.size := by
        have e' : b = e ∨ b = it := by simpa using hb
        rcases e' with z | z
        · rw [z]; exact hel
        · rw [z]; exact hil
      rw [upd_ne (Nat.ne_of_lt hb')]
      exact (hf b hb).1
  done := by
    intro X hP hw hK hc i pins s σ H E I hf st hg
    subst hP hw hK
    obtain ⟨⟨old, he⟩, hit, hne⟩ := st
    obtain ⟨xs, hq, hx⟩ := hg
    obtain ⟨its, rv, p, hz⟩ := I.tuple hq
    obtain ⟨f0, f1, f2, f3, f4, f5⟩ := hf it (by simp)
    have hl := rv.length
    have hd1 : X.A.in1.handled = none := I.ok.hd hc
    exact pyNext_enumT_end hd1 he hit p (by simp; omega) fun h' eb => ⟨rfl, I.turned (t' := s.toks) (fun b o hb q => eb b o hb q) f0 f1 f3 f4 f5⟩
  self := fun A i s Q E st h => let ⟨⟨_, he⟩, _⟩ := st; wpAny_pyIter_enum he h
def iEnumT (K : PySem.W.Frag) (ta : TA) : TI := fun σ H R => ta σ H fun vs H1 => ∃ a xs, vs = [.ref a] ∧ SqT K H1 a xs ∧ R (IteT K a) H1
theorem pi_enumT {X : Cx} {e : Expr} {ta : TA} {p pos tpos : Pos} {elts : List Expr} {kk : Nat} (hg : Gl X "enumerate") (hm : X.mg "enumerate" = none) (ha : PA X [e] ta) (hs : starEach [e] X.env = [(false, eval e X.env)] := by rfl) :
    PI X (.Tuple elts kk tpos) (.Call (.Name "enumerate" p) [e] [] pos) (iEnumT X.K ta) := by
  refine ⟨fun pins s σ H R I h => ?_⟩
  refine Call_ (ld_blt I hg hm boot_enumerate (PyProof.Rows.callWith_type1 (thn (ha.run pos pins s σ H _ I h) fun us s1 ⟨vs, H1, I1, r1, q1⟩ => ?_) hs rfl))
  obtain ⟨a, xs, ex, hq, q⟩ := q1
  subst ex
  cases r1 with
  | cons r rr =>
    cases rr
    cases r
    obtain ⟨its, rv, p', hz⟩ := I1.tuple hq
    have hlt : a < s1.heap.objs.size := by
      obtain ⟨o, ho, _⟩ := p'
      exact Heap.lt_size ho
    refine call_enumT p' fun h' he hit hsz hk => wpAny_pyIter_enum he ?_
    refine ⟨s1.heap.objs.size + 1, [s1.heap.objs.size + 1, s1.heap.objs.size], _, _, H1, rfl, I1.kept (t' := s1.toks) hk, turn_enumT a (s1.heap.objs.size + 1) s1.heap.objs.size (Nat.ne_of_lt hlt) (Nat.ne_of_lt (Nat.lt_succ_of_lt hlt)), ⟨⟨.none, he⟩, hit, Nat.succ_ne_self _⟩, fun b hb => ?_, q⟩
    have hle : s1.heap.objs.size ≤ b := by
      have e' : b = s1.heap.objs.size + 1 ∨ b = s1.heap.objs.size := by simpa using hb
      rcases e' with z | z <;> (rw [z]; omega)
    exact I1.fpOk hle (I1.hok.fresh hle)
/-- number and item -/
def enumD (xs : List PyData) : List PyData := (List.range xs.length).zipWith (fun i x => .tuple [.int (i : Nat), x]) xs
theorem enum_get {xs : List PyData} {i : Nat} {z : PyData} (h : (enumD xs)[i]? = some z) : ∃ x, xs[i]? = some x ∧ z = .tuple [.int (i : Nat), x] := by
  unfold enumD at h
  rw [List.getElem?_zipWith] at h
  split at h
  · rename_i j x e1 e2
    cases h
    refine ⟨x, e2, ?_⟩
    by_cases q : i < xs.length
    · rw [List.getElem?_range q] at e1
      cases e1
      rfl
    · rw [List.getElem?_eq_none (by simpa using q)] at e2
      cases e2
  · cases h
theorem it_enumT {K : PySem.W.Frag} {I G : Hp} {a : Addr} {o : Obj} {vs : List V} {ds : List PyData} (h : G a = some (.frz o (.tup vs))) (r : DqA I vs ds) : ItOk true I G (IteT K a) (enumD ds) := fun I2 G2 H2 s1 s2 s3 s4 => by
  have e : SqT K H2 a vs := sqT_frz (s4 _ _ (s2 _ _ h))
  refine ⟨fun i z hz => ?_, vs, e, ?_⟩
  · obtain ⟨x, hx, rfl⟩ := enum_get hz
    obtain ⟨v, hv, rv⟩ := r.get hx
    refine ⟨⟨vs, v, e, hv⟩, fun q H' ⟨T, v', h1, h2, h3, h4⟩ => .inr ⟨T, _, h2, h3, ?_⟩⟩
    have := h4 vs e
    rw [hv] at this
    cases this
    subst h1
    exact pair_new (sub_none s3 h2) (.int _) (dq_sub s1 _ _ rv)
  · unfold enumD
    rw [List.length_zipWith, List.length_range, ← r.length]
    omega
def dEnum (t : DA) : DI := fun Γ Q Ed => t Γ (fun xs => match xs with
  | [x] => x.dat fun d => (match d with
    | .tuple xs => Q (enumD xs)
    | _ => False)
  | _ => False) Ed
theorem vi_enum {X : Cx} {tw : Tw} {W : WX} {e : Expr} {t : DA} {p pos tpos : Pos} {elts : List Expr} {kk : Nat} (B : Blt X.mg) (hg : Gl X "enumerate") (ha : VA X tw W [e] t) (hs : starEach [e] X.env = [(false, eval e X.env)] := by rfl) :
    VI X tw W true (.Tuple elts kk tpos) (.Call (.Name "enumerate" p) [e] [] pos) (dEnum t) := PI.mono (pi_enumT hg B.enumerate ha hs) fun σ H R ⟨F, own, Γ, Qd, Ed, ht, R0, q, k, kx⟩ => by
  refine liftA_mk ht R0 kx q fun vs H1 xs R1 e1 r1 q1 => ?_
  split at q1
  · cases r1 with
    | cons r rn =>
      cases rn
      obtain ⟨d, q2, hd, _⟩ := AV.dat_rep r q1
      split at q2
      · cases hd with
        | tup h1 h0 h2 => exact ⟨_, _, rfl, sqT_frz (sub_hide _ _ h1), k _ _ _ R1 e1 (it_enumT h1 h2) q2⟩
      · exact q2.elim
  · exact q1.elim
end WL

set_option maxRecDepth 100000
set_option maxHeartbeats 2000000
namespace L2
open PySem PySem.Spec PyProof.Rows
/-! ### a caught exception that is kept behind its suite -/
section
variable {X : Cx} {pins : List (Addr × Obj)} {σ : St} {H : Hp} {s : Shared} {a : Addr} {oe : Obj}
theorem Inv.pinKept {pn' : List (Addr × Obj)} (I : Inv (X.suite a ((a, oe) :: (X.pn ++ pins))) pn' σ H s) (ok : X.Ok) : Inv X ((a, oe) :: pins) σ H s :=
  { I.unsuite (q := (a, oe)) ok with
    pin := fun p hp => I.pin p (List.mem_append_left _ (by
      rcases List.mem_append.mp hp with h | h
      · exact List.mem_cons_of_mem _ (List.mem_append_left _ h)
      · rcases List.mem_cons.mp h with h | h
        · rw [h]; exact List.mem_cons_self
        · exact List.mem_cons_of_mem _ (List.mem_append_right _ h))) }
theorem Inv.unpin (I : Inv X ((a, oe) :: pins) σ H s) : Inv X pins σ H s :=
  { I with
    pin := fun p hp => I.pin p (by
      rcases List.mem_append.mp hp with h | h
      · exact List.mem_append_left _ h
      · exact List.mem_append_right _ (List.mem_cons_of_mem _ h)) }
theorem Inv.toKept (I : Inv X ((a, oe) :: pins) σ H s) (xe : Value → Shared → Prop) : Inv (X.tr ((a, oe) :: (X.pn ++ pins)) xe) [] σ H s :=
  ⟨I.ok.toTry _ _, I.os, I.bare, I.base, I.loc, I.cell, I.free, I.freeC, fun p hp => I.pin p (by
    have hp' : p ∈ (a, oe) :: (X.pn ++ pins) := by rw [List.append_nil] at hp; exact hp
    rcases List.mem_cons.mp hp' with h | h
    · rw [h]; exact List.mem_append_right _ List.mem_cons_self
    · rcases List.mem_append.mp h with h | h
      · exact List.mem_append_left _ h
      · exact List.mem_append_right _ (List.mem_cons_of_mem _ h)), I.hok, I.len⟩
theorem Inv.ofKept {pn' : List (Addr × Obj)} {xe : Value → Shared → Prop} (I : Inv (X.tr ((a, oe) :: (X.pn ++ pins)) xe) pn' σ H s) (ok : X.Ok) : Inv X pins σ H s :=
  ⟨ok, I.os, I.bare, I.base, I.loc, I.cell, I.free, I.freeC, fun p hp => I.pin p (List.mem_append_left _ (List.mem_cons_of_mem _ hp)), I.hok, I.len⟩
end
/-- what is wanted of an exception in the body: ts, the suite's reading; tE, that of what stands behind the try -/
def wKeep (K : PySem.W.Frag) (c : Value) (i : Nat) (ts tE : Addr → Value → Option Addr → TS) (Wout : WX) (D : Ends) : WX := fun cls d σ H =>
  ∃ b, PySem.W.exmOne K cls c = some b ∧ (b = true → ∀ a, H a = none → ts a cls d { nx := fun σ' H' => tE a cls d D (σ'.set i none) H', rt := fun _ _ => False } (σ.set i (some (.ref a))) H) ∧ (b = false → Wout cls d σ H)
section
variable {X : Cx} {x n : Str} {c : Value} {i : Nat} {body suite rest : List Stmt} {b₀ : Stmt} {np pos pos' : Pos} {tb : WX → TS} {ts tE : Addr → Value → Option Addr → TS} {tN : TS} {Wout : WX}
theorem pss_try_keep (hs : X.stack = X.env :: X.outer) (hf : X.env.frame = some X.env.locals) (hN : X.N.Nodup) (hi : X.N[i]? = some n) (hln : X.env.kindOf n = some .local) (hc : Names X x c) (tk : Takes X Wout)
    (hb : ∀ (W : WX) (pn : List (Addr × Obj)) (xe : Value → Shared → Prop), Takes (X.tr pn xe) W → PassesOwn (model X.prog X.w) X.A X.env xe → PSs (X.tr pn xe) body (tb W))
    (hsu : ∀ (a : Addr) (oe : Obj) (cls : Value) (d : Option Addr) (pn : List (Addr × Obj)), Zc cls d oe → (∃ vs, oe.data = .fields vs) → PSs (X.suite a ((a, oe) :: pn)) (b₀ :: suite) (ts a cls d))
    (hrN : PSs X rest tN)
    (hrE : ∀ (a : Addr) (oe : Obj) (cls : Value) (d : Option Addr) (pn : List (Addr × Obj)), Zc cls d oe → (∃ vs, oe.data = .fields vs) → PSs (X.tr ((a, oe) :: pn) X.xe) rest (tE a cls d)) :
    PSs X (.Try body [.ExceptHandler (some (.Name x np)) (some n) (b₀ :: suite) pos'] [] [] pos :: rest) (fun D σ H => tb (wKeep X.K c i ts tE Wout D) { D with nx := tN D } σ H) := by
  refine ⟨fun pins s σ H D I h => ?_⟩
  have ok := I.ok
  have hfr : X.A.frames = some (X.env :: X.outer) := by rw [ok.frames, hs]
  have hloc : Loc X.env.scope n := .inl hln
  refine wpAny_execs_cons (wpAny_Try_except ?_)
  refine wpAny_mono ((hb (wKeep X.K c i ts tE Wout D) (X.pn ++ pins) _ (fun u s1 xx => ?_) PassesOwn.looking).run [] s σ H _ (I.toTry _) h) (fun f s1 hsp => ?_) (fun e s1 he => he)
  · obtain ⟨a, B, sI, pins', σ', H', cls, d, rfl, J', nb, up, sky, na, os, ag, b, hb1, hyes, hno⟩ := xx
    have J : Inv X pins σ' H' sI := J'.ofTry ok
    have sky' : Sky B (X.env :: X.outer) a (Zc cls d) X.env.locals s1.heap := by rw [← hs]; exact sky
    show wpAny (model X.prog X.w) X.A (noteFrame (.ref a) X.env) _ _ _
    refine Sky.land Zc.steady hfr hf sky' fun h3 fl3 up3 => ?_
    have J3 : Inv X pins σ' H' { s1 with heap := h3 } := J.landed nb fl3.1 (up.trans up3) os ag
    obtain ⟨oe3, vs3, he3, hz3, hd3⟩ := fl3.there
    have nfr : a ∉ frs (X.env :: X.outer) := fun hm => by
      obtain ⟨_, o', e', hnf⟩ := fl3.2.2.1.mem hm
      rw [he3] at e'; cases e'
      exact hnf _ hd3
    have nL : a ≠ X.env.locals := fun z => nfr (List.mem_filterMap.mpr ⟨X.env, List.mem_cons_self, by rw [hf, z]⟩)
    have nF : a ∉ X.fs := fun hm => by
      obtain ⟨e, he, q⟩ := List.mem_filterMap.mp hm
      exact nfr (List.mem_filterMap.mpr ⟨e, List.mem_cons_of_mem _ he, q⟩)
    have S3 := J3.suite he3 hd3 na nL nF
    refine wpAny_handleBy_cons (codeAny_handlers_test ?_) (by intro q; cases q)
    have LT : PySem.W.Looks (model X.prog X.w) h3 (typeOf (.ref a)) cls := fun A Q E s k q => wpAny_typeOf_ref (k _ _ he3) (by rw [hz3.1]; exact q)
    have LM := PySem.W.exm_one (M := model X.prog X.w) (J3.kIn) LT hb1
    have test : ∀ {Q : Value → Shared → Prop} {E : Value → Shared → Prop}, Q c { s1 with heap := h3 } → wpAny (model X.prog X.w) (X.A.mark (some (.ref a))) (eval (.Name x np) X.env) Q E { s1 with heap := h3 } := fun {Q E} q => by
      obtain ⟨hg, hdbg, hm | ⟨hm, hv, hnn⟩⟩ := hc
      · exact ld_glob (X := X.suite a ((a, oe3) :: (X.pn ++ pins))) S3 hg hm q hdbg
      · exact ld_blt (X := X.suite a ((a, oe3) :: (X.pn ++ pins))) S3 hg hm hv q hnn hdbg
    refine test (LM.here ?_)
    cases b with
    | true =>
      refine codeAny_handlers_suite_as ?_
      refine HandSPX.lands_againZ fl3 fun h4 fl4 up4 => ?_
      have J4 : Inv X pins σ' H' { s1 with heap := h4 } := J.landed nb fl4.1 ((up.trans up3).trans up4) os ag
      obtain ⟨oe4, vs4, he4, hz4, hd4⟩ := fl4.there
      have S4 := J4.suite he4 hd4 na nL nF
      refine store_ok (X := X.suite a ((a, oe4) :: (X.pn ++ pins))) (v := .ref a) S4 hN hi hloc rfl (fun s5 S5 => ?_) (.inr hln)
      refine wpAny_mono ((hsu a oe4 cls d (X.pn ++ pins) hz4 ⟨_, hd4⟩).run [] s5 _ H' _ S5 (hyes rfl a na)) (fun f s6 hsp => ?_) (fun _ _ z => False.elim z)
      cases f with
      | next =>
        obtain ⟨σ6, H6, S6, q6⟩ := hsp
        refine gone_ok (S6.pinKept ok) hN hi hln fun s7 J7 => ?_
        refine thn ((hrE a oe4 cls d (X.pn ++ pins) hz4 ⟨_, hd4⟩).run [] s7 _ H6 D (J7.toKept X.xe) q6) fun f s8 q8 => ?_
        cases f with
        | next => obtain ⟨σ8, H8, J8, q⟩ := q8; exact ⟨σ8, H8, J8.ofKept ok, q⟩
        | brk => obtain ⟨σ8, H8, J8, q⟩ := q8; exact ⟨σ8, H8, J8.ofKept ok, q⟩
        | cont => obtain ⟨σ8, H8, J8, q⟩ := q8; exact ⟨σ8, H8, J8.ofKept ok, q⟩
        | ret u => obtain ⟨v8, σ8, H8, J8, r, q⟩ := q8; exact ⟨v8, σ8, H8, J8.ofKept ok, r, q⟩
      | brk => obtain ⟨_, _, _, q⟩ := hsp; exact q.elim
      | cont => obtain ⟨_, _, _, q⟩ := hsp; exact q.elim
      | ret u => obtain ⟨_, _, _, _, _, q⟩ := hsp; exact q.elim
    | false =>
      show wpAny _ X.A (handleBy (.ref a) X.env []) _ _ _
      refine wpAny_handleBy_nil ?_
      obtain ⟨k1, k2, k3, oe, vs, T, oT, ts', he, hz, hd, h1, hr⟩ := id fl3
      unfold PySem.passOn
      refine wpAny_bind (wpAny_field he hd h1 ?_)
      rw [if_neg (show ¬ ((Value.ref T == Value.none) = true) from by simp)]
      have fin : ∀ {Q : Flow → Shared → Prop}, wpAny (model X.prog X.w) X.A (setFlight (.ref a) X.env.frame) (fun _ s4 => wpAny (model X.prog X.w) X.A (throw (.ref a) : Sem Flow) Q X.xe s4) X.xe { s1 with heap := h3 } := fun {Q} => by
        rw [hf]
        refine HandSPX.setFlight_upZ fl3 fun h4 hh4 up4 => wpAny_throw (tk _ _ ?_)
        exact ⟨a, B, sI, pins, σ', H', cls, d, rfl, J, nb, (up.trans up3).trans up4, .inr (.inr (by rw [hs]; exact hh4)), na, os, ag, hno rfl⟩
      first
        | exact wpAny_bind (wpAny_pure (wpAny_bind fin))
        | exact wpAny_bind fin
  · cases f with
    | next =>
      obtain ⟨σ', H', J', q⟩ := hsp
      exact wpAny_execs_nil (hrN.run pins s1 σ' H' D (J'.ofTry ok) q)
    | brk =>
      obtain ⟨σ', H', J', q⟩ := hsp
      exact ⟨σ', H', J'.ofTry ok, q⟩
    | cont =>
      obtain ⟨σ', H', J', q⟩ := hsp
      exact ⟨σ', H', J'.ofTry ok, q⟩
    | ret u =>
      obtain ⟨v, σ', H', J', r, q⟩ := hsp
      exact ⟨v, σ', H', J'.ofTry ok, r, q⟩
end
/-- isinstance of the exception that is kept -/
theorem call_isK {X : Cx} {a D : Addr} {oe : Obj} {pn : List (Addr × Obj)} {xe : Value → Shared → Prop} (C : ExcC X.K D) (hz : Zc (.ref D) none oe) (hf : ∃ vs, oe.data = .fields vs) : CallR (X.tr ((a, oe) :: pn) xe) (.builtin "isinstance") (rIsE X.K D a) := by
  intro pins s σ H xs us Q I r h
  obtain ⟨c, cv, b, rfl, hcv, e, q⟩ := h
  cases r with
  | cons rx rr =>
    cases rr with
    | cons rt rr =>
      cases rr
      cases rx
      have ec := hcv _ rt
      subst ec
      obtain ⟨hget, _⟩ := I.pin (a, oe) (List.mem_append.mpr (.inl List.mem_cons_self))
      obtain ⟨vs, hv⟩ := hf
      have J : PySem.W.InstAt s.heap a oe D none := by
        obtain ⟨oc, od, oda, osl⟩ := oe
        obtain ⟨h1, h2⟩ := hz
        dsimp only at h1 h2 hv
        subst h1 h2 hv
        exact ⟨hget, rfl, rfl, trivial⟩
      exact PySem.W.kia_one (PySem.W.handS_kitx_exc C.hg C.hk C.hs C.hd C.ha C.hn C.ht C.hm) I.kIn J e (fun z => nomatch z) fun tk => ⟨.bl b, H, I.kept (t' := tk) fun _ _ z => z, rfl, q⟩
/-- a test that holds, and what stands behind its body is never reached -/
theorem pss_taken {X : Cx} {c : Expr} {a b rest : List Stmt} {tc : TT} {t : TS} {pos : Pos} (hc : PT X c tc) (ha : PSs X a t) : PSs X (.If c a b pos :: rest) (fun D σ H => tc σ H fun d H1 => d = true ∧ t { D with nx := fun _ _ => False } σ H1) := by
  refine ⟨fun pins s σ H D I h => ?_⟩
  refine wpAny_execs_cons (wpAny_If (thn (hc.run pins s σ H _ I h) fun d s1 ⟨H1, I1, hd, q1⟩ => ?_))
  subst hd
  refine thn (ha.run pins s1 σ H1 _ I1 q1) fun f s2 q => ?_
  cases f with
  | next => obtain ⟨_, _, _, q⟩ := q; exact q.elim
  | ret v => exact q
  | brk => exact q
  | cont => exact q
end L2

set_option maxRecDepth 100000
set_option maxHeartbeats 2000000
namespace L2
open PySem PySem.Spec PyProof.Rows
/-! ### d.update(e) -/
theorem mergeK_le (kvs : List (Key × V)) : ∀ more : List (Key × V), (mergeK kvs more).length ≤ kvs.length + more.length := by
  intro more
  induction more generalizing kvs with
  | nil => exact Nat.le_refl _
  | cons q more ih =>
    refine Nat.le_trans (ih (putK kvs q.1 q.2)) ?_
    have := length_putK kvs q.1 q.2
    rw [List.length_cons]
    omega
def rUpdD : V → List V → Hp → VK → Prop := fun x xs H Q => ∃ a b kvs kws, x = .ref a ∧ xs = [.ref b] ∧ a ≠ b ∧ H a = some (.dK kvs) ∧ H b = some (.dK kws) ∧ kvs.length + kws.length ≤ 1000 ∧ Q .non (upd H a (.dK (mergeK kvs kws)))
theorem mt_updD {X : Cx} : MtR X "dict.update" rUpdD := by
  intro pins s σ H x vs v us Q I rx rv h
  obtain ⟨a, b, kvs, kws, rfl, rfl, hab, hA, hB, hz, q⟩ := h
  cases rx
  obtain ⟨u, rfl, ru⟩ := rv.one
  cases ru
  obtain ⟨z1, hd1, vs1, r1, dd1⟩ := dk_of I.hok hA
  obtain ⟨z2, hd2, vs2, r2, dd2⟩ := dk_of I.hok hB
  have l1 := r1.length
  have l2 := r2.length
  refine call_meetsIn PySem.F.slot_dict_update dd1.typeIs PySem.F.entry_dict_update (PySem.F.args_dict_update_2 _ _) (meets_dict_update (mixKind X.prog X.w) a b hab hd2)
    ⟨vs1, vs2, dd1, dd2, by rw [sizeLine_eq]; omega, fun h' hm _ hs => ?_⟩
  have he : ∃ q, h'.get? a = some q := let ⟨q, _, _, hq, _⟩ := hm; ⟨q, hq⟩
  refine ⟨.non, _, d_write I (by rw [hA]; exact True.intro) hs he (dk_new ?_ hd1 (r2.merge r1) hm), rfl, q⟩
  have := mergeK_le kvs kws
  rw [sizeLine_eq]
  omega
end L2

set_option maxRecDepth 100000
set_option maxHeartbeats 2000000
namespace WL
open PySem PySem.Spec PyProof.Rows L2
/-! ### readings for _law_result -/
theorem iteB_t {b : Bool} {p q : Prop} (h : b = true) (x : p) : if b = true then p else q := by rw [if_pos h]; exact x
theorem iteB_f {b : Bool} {p q : Prop} (h : b = false) (x : q) : if b = true then p else q := by rw [if_neg (by rw [h]; decide)]; exact x
section
variable {K : PySem.W.Frag} {Dd a d : Addr} {σ : L2.St} {H : Hp} {Q : VK}
theorem isi_read {C : Addr} {b : Bool} (h1 : σ[1]? = some (some (.ref a))) (hk : PySem.W.kitOne K (.ref Dd) (.ref C) = some b) (q : Q (.bl b) H) : tCB (rIsE K Dd a) (tCons (tVar 1) (tCons (tC (.ref C)) tNil)) σ H Q :=
  ⟨.ref a, h1, .ref C, .ref C, b, rfl, fun u r => r, hk, q⟩
theorem isi_readT {n : String} {b : Bool} (h1 : σ[1]? = some (some (.ref a))) (hk : PySem.W.kitOne K (.ref Dd) (.type n) = some b) (q : Q (.bl b) H) : tCB (rIsE K Dd a) (tCons (tVar 1) (tCons (tC (.ty n)) tNil)) σ H Q :=
  ⟨.ref a, h1, .ty n, .type n, b, rfl, fun u r => r, hk, q⟩
theorem disp2_read {k1 k2 : Str} {t1 t2 : TE} {b1 b2 : Bool} (h1 : ∀ H' Q', Q' (.bl b1) H' → t1 σ H' Q') (h2 : ∀ H' Q', Q' (.bl b2) H' → t2 σ H' Q')
    (q : ∀ p, H p = none → Q (.ref p) (upd H p (.dK (mergeK [] [(.inr k1, .bl b1), (.inr k2, .bl b2)])))) : tDisp [(tC (.str k1), t1), (tC (.str k2), t2)] σ H Q := by
  intro p hp
  refine h1 _ _ (h2 _ _ ⟨upd_same, [(.inr k1, .bl b1), (.inr k2, .bl b2)], rfl, (by show 2 ≤ 15; decide), ?_⟩)
  rw [upd_upd]
  exact q p hp
theorem disp1_read {k1 : Str} {t1 : TE} {b1 : Bool} (h1 : ∀ H' Q', Q' (.bl b1) H' → t1 σ H' Q')
    (q : ∀ p, H p = none → Q (.ref p) (upd H p (.dK (mergeK [] [(.inr k1, .bl b1)])))) : tDisp [(tC (.str k1), t1)] σ H Q := by
  intro p hp
  refine h1 _ _ ⟨upd_same, [(.inr k1, .bl b1)], rfl, (by show 1 ≤ 15; decide), ?_⟩
  rw [upd_upd]
  exact q p hp
/-- d.update({..}) -/
theorem upd_read {trs : List (TE × TE)} {kvs more : List (Key × V)} {D : Ends} (h4 : σ[4]? = some (some (.ref d))) (hd : H d = some (.dK kvs)) (hl : kvs.length + more.length ≤ 1000)
    (ht : ∀ Q', (∀ p, H p = none → Q' (.ref p) (upd H p (.dK more))) → tDisp trs σ H Q')
    (q : ∀ H', (∀ b o, b ≠ d → H b = some o → H' b = some o) → H' d = some (.dK (mergeK kvs more)) → D.nx σ H') : tDrop (tBM K "dict" rUpdD (tVar 4) (tCons (tDisp trs) tNil)) D σ H := by
  refine ⟨.ref d, h4, .inr (.inr (.inl ⟨rfl, .inl ⟨kvs, hd⟩⟩)), ht _ fun p hp => ?_⟩
  have hdp : d ≠ p := ne_of_none hd hp
  refine ⟨d, p, kvs, more, rfl, rfl, hdp, by rw [upd_ne hdp]; exact hd, upd_same, hl, q _ (fun b o hb e => ?_) upd_same⟩
  rw [upd_ne hb, upd_ne (ne_of_none e hp)]
  exact e
def resL (l : List (Key × V)) : List V := (l.filter fun kv => decide (kv.2 = .bl true)).map fun kv => kV kv.1
theorem resL_snoc {l : List (Key × V)} {k : Key} {v : V} : resL (l ++ [(k, v)]) = resL l ++ (if v = .bl true then [kV k] else []) := by
  unfold resL
  rw [List.filter_append, List.map_append]
  congr 1
  by_cases e : v = .bl true
  · rw [if_pos e, List.filter_cons_of_pos (by exact decide_eq_true e)]
    rfl
  · rw [if_neg e, List.filter_cons_of_neg (by intro z; exact e (of_decide_eq_true z))]
    rfl
/-- [k for k in d if d[k]] -/
theorem lc_read {o : Obj} {kvs : List (Key × V)} (hs : σ.length = 7) (h4 : σ[4]? = some (some (.ref d))) (hd : H d = some (.frz o (.dK kvs))) (hv : ∀ kv ∈ kvs, valV kvs kv.1 = some kv.2 ∧ ∃ b, kv.2 = .bl b) (hl : kvs.length ≤ 1000)
    (q : ∀ D, H D = none → Q (.ref D) (upd H D (.lst (resL kvs)))) : tLc (iKeys (tVar 4)) (gName 6) (tB (tDGet (tVar 4) (tVar 6))) (tVar 6) [6] σ H Q := by
  refine ⟨.ref d, h4, d, o, rfl, .inl ⟨kvs, hd, ?_⟩⟩
  intro D hD
  have hDd : d ≠ D := ne_of_none hd hD
  refine ⟨fun i m H' => i ≤ kvs.length ∧ m = kvs.length - i ∧ H' = upd H D (.lst (resL (kvs.take i))), ⟨_, Nat.zero_le _, rfl, rfl⟩, ?_⟩
  rintro i m H' ⟨hi, rfl, rfl⟩
  have hd' : (upd H D (.lst (resL (kvs.take i)))) d = some (.frz o (.dK kvs)) := by rw [upd_ne hDd]; exact hd
  by_cases e : i = kvs.length
  · left
    subst e
    refine ⟨⟨hd', Nat.le_refl _⟩, ?_⟩
    rw [List.take_length]
    exact q D hD
  · right
    refine ⟨⟨hd', by omega⟩, fun H'' => H'' = upd H D (.lst (resL (kvs.take (i + 1)))), fun H' e' => ⟨kvs.length - (i + 1), by omega, by omega, rfl, e'⟩, ?_⟩
    rintro x H' ⟨rfl, k, v, hk, rfl⟩
    obtain ⟨hval, b, hb⟩ := hv (k, v) (List.mem_of_getElem? hk)
    have hb : v = .bl b := hb
    subst hb
    have et : kvs.take (i + 1) = kvs.take i ++ [(k, .bl b)] := by rw [List.take_add_one, hk]; rfl
    have ln : (resL (kvs.take i)).length ≤ 1000 := by
      unfold resL
      rw [List.length_map]
      refine Nat.le_trans (List.length_filter_le _ _) ?_
      rw [List.length_take]
      omega
    have w0 : wipe σ [6] = σ.set 6 none := rfl
    refine ⟨?_, .ref d, ?_, kV k, ?_, d, .bl b, rfl, .inl ⟨kvs, k, .inr ⟨o, hd'⟩, rfl, hval.symm⟩, b, rfl, ?_⟩
    · show (List.set (List.set (List.set σ 6 none) 6 (some (kV k))) 6 none) = _
      rw [List.set_set, List.set_set] <;> rfl
    · rw [w0]
      simp [h4]
    · rw [w0]
      simp [hs]
    · cases b with
      | true =>
        refine ⟨kV k, ?_, resL (kvs.take i), upd_same, by rw [sizeLine_eq]; omega, ?_⟩
        · rw [w0]
          simp [hs]
        · rw [upd_upd, et, resL_snoc, if_pos rfl]
      | false =>
        show _ = _
        rw [et, resL_snoc, if_neg (by intro z; cases z), List.append_nil]
end
def errNames : List (Str × Str) := [("InvalidRock", "rock"), ("InvalidBody", "body"), ("InvalidHold", "grip"), ("InvalidLimb", "limb"), ("InvalidNumber", "number"), ("InvalidStance", "pose"), ("InvalidText", "text"), ("NoMove", "no"), ("NothingToUndo", "undo")]
def errKvs (x : Str) : List (Key × V) := [(.inr "rock", .bl (decide (("InvalidRock" : Str) = x))), (.inr "body", .bl (decide (("InvalidBody" : Str) = x))), (.inr "grip", .bl (decide (("InvalidHold" : Str) = x))), (.inr "limb", .bl (decide (("InvalidLimb" : Str) = x))), (.inr "number", .bl (decide (("InvalidNumber" : Str) = x))), (.inr "pose", .bl (decide (("InvalidStance" : Str) = x))), (.inr "text", .bl (decide (("InvalidText" : Str) = x))), (.inr "no", .bl (decide (("NoMove" : Str) = x))), (.inr "undo", .bl (decide (("NothingToUndo" : Str) = x)))]
theorem errKvs_eq (x : Str) : mergeK (mergeK (mergeK (mergeK (mergeK [] [(.inr "rock", .bl (decide (("InvalidRock" : Str) = x))), (.inr "body", .bl (decide (("InvalidBody" : Str) = x)))]) (mergeK [] [(.inr "grip", .bl (decide (("InvalidHold" : Str) = x))), (.inr "limb", .bl (decide (("InvalidLimb" : Str) = x)))])) (mergeK [] [(.inr "number", .bl (decide (("InvalidNumber" : Str) = x))), (.inr "pose", .bl (decide (("InvalidStance" : Str) = x)))])) (mergeK [] [(.inr "text", .bl (decide (("InvalidText" : Str) = x))), (.inr "no", .bl (decide (("NoMove" : Str) = x)))])) (mergeK [] [(.inr "undo", .bl (decide (("NothingToUndo" : Str) = x)))]) = errKvs x := rfl
theorem errKvs_val (x : Str) : ∀ kv ∈ errKvs x, valV (errKvs x) kv.1 = some kv.2 ∧ ∃ b, kv.2 = .bl b := by
  intro kv h
  unfold errKvs at h
  simp only [List.mem_cons, List.mem_nil_iff, or_false] at h
  rcases h with rfl | rfl | rfl | rfl | rfl | rfl | rfl | rfl | rfl <;> exact ⟨rfl, _, rfl⟩
theorem errKvs_res {x nm : Str} (h : (x, nm) ∈ errNames) : resL (errKvs x) = [.str nm] := by
  unfold errNames at h
  simp only [List.mem_cons, List.mem_nil_iff, or_false, Prod.mk.injEq] at h
  rcases h with ⟨rfl, rfl⟩ | ⟨rfl, rfl⟩ | ⟨rfl, rfl⟩ | ⟨rfl, rfl⟩ | ⟨rfl, rfl⟩ | ⟨rfl, rfl⟩ | ⟨rfl, rfl⟩ | ⟨rfl, rfl⟩ | ⟨rfl, rfl⟩ <;> rfl
end WL

namespace WL
open PySem PySem.Spec PyProof.Rows L2
def top (i : Nat) : Stmt := PySem.Challenge.pw_wallholds_k09_tops.main.body.getD i (.Pass ⟨0, 0, 0, 0⟩)
abbrev FnP (K : PySem.W.Frag) (x : Str) (st : Stmt) (f : Addr) (fd : FuncData) : Prop := FunD K x x (defArgs st) (defBody st) (defScope st) [] [] f fd
abbrev S_is_between : Stmt := top 12
abbrev S_are_between : Stmt := top 13
abbrev S_is_hold : Stmt := top 14
abbrev S_is_rock : Stmt := top 15
abbrev S_is_body : Stmt := top 16
abbrev S_check_rock : Stmt := top 17
abbrev S_check_body : Stmt := top 18
abbrev S_check_both : Stmt := top 19
abbrev S_check_hold : Stmt := top 20
abbrev S_apart_by : Stmt := top 21
abbrev S_have_room : Stmt := top 22
abbrev S_are_sorted : Stmt := top 23
abbrev S_is_kept : Stmt := top 24
abbrev S_is_good_one : Stmt := top 25
abbrev S_check_stance : Stmt := top 26
abbrev S_changed : Stmt := top 28
abbrev S_next_stances : Stmt := top 29
abbrev S_check_all : Stmt := top 30
abbrev S_ways_from : Stmt := top 31
abbrev S_led_back : Stmt := top 32
abbrev S_differ_in_one : Stmt := top 33
abbrev S_is_any_way : Stmt := top 34
abbrev S_does_top : Stmt := top 36
abbrev S_check_top : Stmt := top 37
abbrev S_found_climb : Stmt := top 38
abbrev S_climb : Stmt := top 39
abbrev S_fewest_moves : Stmt := top 40
abbrev S_is_climb : Stmt := top 41
abbrev S__law_result : Stmt := top 43
abbrev S__law_is : Stmt := top 44
abbrev S__law_draw : Stmt := top 45
abbrev S__law_begun : Stmt := top 46
abbrev S__law_rock : Stmt := top 47
abbrev S__law_body : Stmt := top 48
abbrev S__law_kept : Stmt := top 49
abbrev S__law_all : Stmt := top 50
abbrev S__law_near : Stmt := top 51
abbrev S__law_levels : Stmt := top 52
abbrev S__law_climb : Stmt := top 53
abbrev S__law_top : Stmt := top 54
abbrev S_law : Stmt := top 55
abbrev N_is_between : List Str := ["value", "low", "high"]
theorem sc_is_between : FnScope N_is_between ["value", "low", "high"] (defScope S_is_between) := ⟨rfl, rfl, rfl, by decide +kernel, rfl, by decide +kernel, by decide +kernel⟩
abbrev N_are_between : List Str := ["value", "many", "low", "high", "one"]
theorem sc_are_between : FnScope N_are_between ["value", "many", "low", "high"] (defScope S_are_between) := ⟨rfl, rfl, rfl, by decide +kernel, rfl, by decide +kernel, by decide +kernel⟩
abbrev N_is_hold : List Str := ["value"]
theorem sc_is_hold : FnScope N_is_hold ["value"] (defScope S_is_hold) := ⟨rfl, rfl, rfl, by decide +kernel, rfl, by decide +kernel, by decide +kernel⟩
abbrev N_is_rock : List Str := ["value", "one"]
theorem sc_is_rock : FnScope N_is_rock ["value"] (defScope S_is_rock) := ⟨rfl, rfl, rfl, by decide +kernel, rfl, by decide +kernel, by decide +kernel⟩
abbrev N_is_body : List Str := ["value"]
theorem sc_is_body : FnScope N_is_body ["value"] (defScope S_is_body) := ⟨rfl, rfl, rfl, by decide +kernel, rfl, by decide +kernel, by decide +kernel⟩
abbrev N_check_rock : List Str := ["rock"]
theorem sc_check_rock : FnScope N_check_rock ["rock"] (defScope S_check_rock) := ⟨rfl, rfl, rfl, by decide +kernel, rfl, by decide +kernel, by decide +kernel⟩
abbrev N_check_body : List Str := ["body"]
theorem sc_check_body : FnScope N_check_body ["body"] (defScope S_check_body) := ⟨rfl, rfl, rfl, by decide +kernel, rfl, by decide +kernel, by decide +kernel⟩
abbrev N_check_both : List Str := ["rock", "body"]
theorem sc_check_both : FnScope N_check_both ["rock", "body"] (defScope S_check_both) := ⟨rfl, rfl, rfl, by decide +kernel, rfl, by decide +kernel, by decide +kernel⟩
abbrev N_check_hold : List Str := ["rock", "hold"]
theorem sc_check_hold : FnScope N_check_hold ["rock", "hold"] (defScope S_check_hold) := ⟨rfl, rfl, rfl, by decide +kernel, rfl, by decide +kernel, by decide +kernel⟩
abbrev N_apart_by : List Str := ["rock", "one", "other"]
theorem sc_apart_by : FnScope N_apart_by ["rock", "one", "other"] (defScope S_apart_by) := ⟨rfl, rfl, rfl, by decide +kernel, rfl, by decide +kernel, by decide +kernel⟩
abbrev N_have_room : List Str := ["rock", "stance", "hold"]
theorem sc_have_room : FnScope N_have_room ["rock", "stance"] (defScope S_have_room) := ⟨rfl, rfl, rfl, by decide +kernel, rfl, by decide +kernel, by decide +kernel⟩
abbrev N_are_sorted : List Str := ["rock", "left", "right", "cross"]
theorem sc_are_sorted : FnScope N_are_sorted ["rock", "left", "right", "cross"] (defScope S_are_sorted) := ⟨rfl, rfl, rfl, by decide +kernel, rfl, by decide +kernel, by decide +kernel⟩
abbrev N_is_kept : List Str := ["rock", "body", "stance", "left", "right", "one", "other", "arms", "legs", "trunk", "cross", "hand", "foot"]
theorem sc_is_kept : FnScope N_is_kept ["rock", "body", "stance"] (defScope S_is_kept) := ⟨rfl, rfl, rfl, by decide +kernel, rfl, by decide +kernel, by decide +kernel⟩
abbrev N_is_good_one : List Str := ["rock", "body", "value"]
theorem sc_is_good_one : FnScope N_is_good_one ["rock", "body", "value"] (defScope S_is_good_one) := ⟨rfl, rfl, rfl, by decide +kernel, rfl, by decide +kernel, by decide +kernel⟩
abbrev N_check_stance : List Str := ["rock", "body", "stance"]
theorem sc_check_stance : FnScope N_check_stance ["rock", "body", "stance"] (defScope S_check_stance) := ⟨rfl, rfl, rfl, by decide +kernel, rfl, by decide +kernel, by decide +kernel⟩
abbrev N_changed : List Str := ["stance", "limb", "hold"]
theorem sc_changed : FnScope N_changed ["stance", "limb", "hold"] (defScope S_changed) := ⟨rfl, rfl, rfl, by decide +kernel, rfl, by decide +kernel, by decide +kernel⟩
abbrev N_next_stances : List Str := ["rock", "body", "stance", "found", "limb", "some", "hold", "row"]
theorem sc_next_stances : FnScope N_next_stances ["rock", "body", "stance"] (defScope S_next_stances) := ⟨rfl, rfl, rfl, by decide +kernel, rfl, by decide +kernel, by decide +kernel⟩
abbrev N_check_all : List Str := ["rock", "body", "stance"]
theorem sc_check_all : FnScope N_check_all ["rock", "body", "stance"] (defScope S_check_all) := ⟨rfl, rfl, rfl, by decide +kernel, rfl, by decide +kernel, by decide +kernel⟩
abbrev N_ways_from : List Str := ["rock", "body", "start", "known", "waiting", "here", "there"]
theorem sc_ways_from : FnScope N_ways_from ["rock", "body", "start"] (defScope S_ways_from) := ⟨rfl, rfl, rfl, by decide +kernel, rfl, by decide +kernel, by decide +kernel⟩
abbrev N_led_back : List Str := ["known", "goal", "found"]
theorem sc_led_back : FnScope N_led_back ["known", "goal"] (defScope S_led_back) := ⟨rfl, rfl, rfl, by decide +kernel, rfl, by decide +kernel, by decide +kernel⟩
abbrev N_differ_in_one : List Str := ["one", "other", "mine", "yours"]
theorem sc_differ_in_one : FnScope N_differ_in_one ["one", "other"] (defScope S_differ_in_one) := ⟨rfl, rfl, rfl, by decide +kernel, rfl, by decide +kernel, by decide +kernel⟩
abbrev N_is_any_way : List Str := ["rock", "body", "value", "row", "one", "other"]
theorem sc_is_any_way : FnScope N_is_any_way ["rock", "body", "value"] (defScope S_is_any_way) := ⟨rfl, rfl, rfl, by decide +kernel, rfl, by decide +kernel, by decide +kernel⟩
abbrev N_does_top : List Str := ["stance", "top"]
theorem sc_does_top : FnScope N_does_top ["stance", "top"] (defScope S_does_top) := ⟨rfl, rfl, rfl, by decide +kernel, rfl, by decide +kernel, by decide +kernel⟩
abbrev N_check_top : List Str := ["rock", "body", "start", "top"]
theorem sc_check_top : FnScope N_check_top ["rock", "body", "start", "top"] (defScope S_check_top) := ⟨rfl, rfl, rfl, by decide +kernel, rfl, by decide +kernel, by decide +kernel⟩
abbrev N_found_climb : List Str := ["rock", "body", "start", "top", "known", "rows", "there", "row"]
theorem sc_found_climb : FnScope N_found_climb ["rock", "body", "start", "top"] (defScope S_found_climb) := ⟨rfl, rfl, rfl, by decide +kernel, rfl, by decide +kernel, by decide +kernel⟩
abbrev N_climb : List Str := ["rock", "body", "start", "top"]
theorem sc_climb : FnScope N_climb ["rock", "body", "start", "top"] (defScope S_climb) := ⟨rfl, rfl, rfl, by decide +kernel, rfl, by decide +kernel, by decide +kernel⟩
abbrev N_fewest_moves : List Str := ["rock", "body", "start", "top", "found"]
theorem sc_fewest_moves : FnScope N_fewest_moves ["rock", "body", "start", "top"] (defScope S_fewest_moves) := ⟨rfl, rfl, rfl, by decide +kernel, rfl, by decide +kernel, by decide +kernel⟩
abbrev N_is_climb : List Str := ["rock", "body", "start", "top", "value", "row"]
theorem sc_is_climb : FnScope N_is_climb ["rock", "body", "start", "top", "value"] (defScope S_is_climb) := ⟨rfl, rfl, rfl, by decide +kernel, rfl, by decide +kernel, by decide +kernel⟩
abbrev N__law_result : List Str := ["_law_call", "_law_raised", "_law_answer", "e", "_law_some", "_law_names", "_law_name"]
theorem sc__law_result : FnScope N__law_result ["_law_call"] (defScope S__law_result) := ⟨rfl, rfl, rfl, by decide +kernel, rfl, by decide +kernel, by decide +kernel⟩
abbrev N__law_is : List Str := ["_law_found", "_law_expected"]
theorem sc__law_is : FnScope N__law_is ["_law_found", "_law_expected"] (defScope S__law_is) := ⟨rfl, rfl, rfl, by decide +kernel, rfl, by decide +kernel, by decide +kernel⟩
abbrev N__law_draw : List Str := ["_law_script", "_law_town", "_law_many", "_law_at", "_law_rest", "_law_number"]
theorem sc__law_draw : FnScope N__law_draw ["_law_script", "_law_town", "_law_many"] (defScope S__law_draw) := ⟨rfl, rfl, rfl, by decide +kernel, rfl, by decide +kernel, by decide +kernel⟩
abbrev N__law_begun : List Str := []
theorem sc__law_begun : FnScope N__law_begun [] (defScope S__law_begun) := ⟨rfl, rfl, rfl, by decide +kernel, rfl, by decide +kernel, by decide +kernel⟩
abbrev N__law_rock : List Str := ["_law_script", "_law_town", "_law_most", "_law_found", "_law_k", "_law_x", "_law_y", "_law_one"]
theorem sc__law_rock : FnScope N__law_rock ["_law_script", "_law_town", "_law_most"] (defScope S__law_rock) := ⟨rfl, rfl, rfl, by decide +kernel, rfl, by decide +kernel, by decide +kernel⟩
abbrev N__law_body : List Str := ["_law_script", "_law_town", "_law_arms", "_law_legs", "_law_trunk"]
theorem sc__law_body : FnScope N__law_body ["_law_script", "_law_town"] (defScope S__law_body) := ⟨rfl, rfl, rfl, by decide +kernel, rfl, by decide +kernel, by decide +kernel⟩
abbrev N__law_kept : List Str := ["_law_holds", "_law_parts", "_law_pose", "_law_one", "_law_other", "_law_limb", "_law_here", "_law_there", "_law_most", "_law_at", "_law_foot", "_law_left"]
theorem sc__law_kept : FnScope N__law_kept ["_law_holds", "_law_parts", "_law_pose"] (defScope S__law_kept) := ⟨rfl, rfl, rfl, by decide +kernel, rfl, by decide +kernel, by decide +kernel⟩
abbrev N__law_all : List Str := ["_law_holds", "_law_parts", "_law_found", "_law_many", "_law_left", "_law_right", "_law_foot", "_law_other"]
theorem sc__law_all : FnScope N__law_all ["_law_holds", "_law_parts"] (defScope S__law_all) := ⟨rfl, rfl, rfl, by decide +kernel, rfl, by decide +kernel, by decide +kernel⟩
abbrev N__law_near : List Str := ["_law_rows", "_law_pose", "_law_found", "_law_row", "_law_mine", "_law_yours"]
theorem sc__law_near : FnScope N__law_near ["_law_rows", "_law_pose"] (defScope S__law_near) := ⟨rfl, rfl, rfl, by decide +kernel, rfl, by decide +kernel, by decide +kernel⟩
abbrev N__law_levels : List Str := ["_law_rows", "_law_begin", "_law_known", "_law_level", "_law_many", "_law_further", "_law_pose", "_law_there"]
theorem sc__law_levels : FnScope N__law_levels ["_law_rows", "_law_begin"] (defScope S__law_levels) := ⟨rfl, rfl, rfl, by decide +kernel, rfl, by decide +kernel, by decide +kernel⟩
abbrev N__law_climb : List Str := ["_law_rows", "_law_begin", "_law_top_here", "_law_value_here", "_law_row", "_law_one", "_law_other", "_law_at"]
theorem sc__law_climb : FnScope N__law_climb ["_law_rows", "_law_begin", "_law_top_here", "_law_value_here"] (defScope S__law_climb) := ⟨rfl, rfl, rfl, by decide +kernel, rfl, by decide +kernel, by decide +kernel⟩
abbrev N__law_top : List Str := ["_law_rock_here", "_law_body_here", "_law_rows", "_law_start_here", "_law_top_here", "_law_known", "_law_some", "_law_row", "_law_due", "_law_found", "_law_there", "_law_value_here", "_law_good", "_law_odd"]
theorem sc__law_top : FnScope N__law_top ["_law_rock_here", "_law_body_here", "_law_rows", "_law_start_here", "_law_top_here"] (defScope S__law_top) := ⟨rfl, rfl, rfl, by decide +kernel, rfl, by decide +kernel, by decide +kernel⟩
abbrev N_law : List Str := ["_law_script", "_law_town", "_law_k", "_law_rock_here", "_law_body_here", "_law_rows", "_law_start_here", "_law_deed", "_law_answers", "_law_odd"]
theorem sc_law : FnScope N_law ["_law_script"] (defScope S_law) := ⟨rfl, rfl, rfl, by decide +kernel, rfl, by decide +kernel, by decide +kernel⟩
end WL

set_option maxRecDepth 100000
set_option maxHeartbeats 1000000
namespace WL
open PySem PySem.Spec PyProof.Rows L2
/-! ### the town of the draws -/
def TownI (t r : Addr) (H : Hp) : Prop := t ≠ r ∧ ∃ (c : Int) (L : List (Key × V)), H t = some (.dK [(.inr "count", .int c), (.inr "rests", .ref r)]) ∧ H r = some (.dK L) ∧ (L.map (·.1)).Nodup ∧ ∀ kv ∈ L, ∃ i z : Int, kv = (.inl i, .int z) ∧ 0 ≤ i ∧ i < 64
/-- T: the tables of code objects (for lambdas) and the names of the code objects that they tell -/
def town (t r : Addr) (T : List (Addr × Str)) : Tw := ⟨fun a => (a = t ∨ a = r) ∨ a ∈ T.map (·.1), fun H => TownI t r H ∧ LamX.Tabs T H⟩
theorem tabs_keep {t r : Addr} {T : List (Addr × Str)} {H H' : Hp} (h : LamX.Tabs T H) (ti : TownI t r H) (k : ∀ a o, H a = some o → ¬ (a = t ∨ a = r) → H' a = some o) : LamX.Tabs T H' := fun p hp => by
  obtain ⟨_, c, L, e1, e2, _⟩ := ti
  obtain ⟨ps, h1, h2, h3⟩ := h p hp
  have np : ∀ {a : Addr} {o : HO}, H a = some o → (∀ kvs, o ≠ .dK kvs) → ¬ (a = t ∨ a = r) := fun {a o} e n z => by
    rcases z with rfl | rfl
    · rw [e1] at e; exact n _ (Option.some.inj e).symm
    · rw [e2] at e; exact n _ (Option.some.inj e).symm
  refine ⟨ps, k _ _ h1 (np h1 fun _ z => by cases z), h2, fun pos cv hc => ?_⟩
  obtain ⟨c', rfl, hc'⟩ := h3 pos cv hc
  exact ⟨c', rfl, k _ _ hc' (np hc' fun _ z => by unfold LamX.CodeO at z; cases z)⟩
theorem tabs_dk {t r : Addr} {T : List (Addr × Str)} {H : Hp} (h : LamX.Tabs T H) : ∀ a, a ∈ T.map (·.1) → ∃ ps, H a = some (.tbl ps) := fun a ha => by
  obtain ⟨p, hp, rfl⟩ := List.mem_map.mp ha
  obtain ⟨ps, h1, _⟩ := h p hp
  exact ⟨ps, h1⟩
def spDraw (K : PySem.W.Frag) : Sp := fun vs H Q _ => ∃ (sc t r : Addr) (ns : List Int) (m : Int), vs = [.ref sc, .ref t, .int m] ∧ SqL K H sc (ns.map V.int) ∧ ns.length ≤ 63 ∧ TownI t r H ∧ 0 < m ∧ m ≤ 1000 ∧
  ∀ d H', 0 ≤ d → d < m → (∀ a o, H a = some o → ¬ (a = t ∨ a = r) → H' a = some o) → TownI t r H' → Q (.int d) H'
section
variable {P : Program} {w : World} {K : PySem.W.Frag} {mg : Str → Option Value} {base : Heap} {f : Addr} {fd : FuncData}
theorem room1 {k : Nat} {A : Around} (hr : Room k A) : A.units + 1 < cLine := by have := hr.units; omega
theorem ite_t {b : Bool} {p q : Prop} (h : b = true) (x : p) : if b = true then p else q := by rw [if_pos h]; exact x
theorem ite_f {b : Bool} {p q : Prop} (h : b = false) (x : q) : if b = true then p else q := by rw [if_neg (by rw [h]; decide)]; exact x
theorem sql_upd {H : Hp} {a t : Addr} {xs : List V} {kvs : List (Key × V)} {o : HO} (h : SqL K H a xs) (ht : H t = some (.dK kvs)) : SqL K (upd H t o) a xs := by
  rcases h with (h | ⟨u, h⟩) | h
  · refine .inl (.inl ?_)
    rw [upd_ne fun z => by rw [z, ht] at h; cases h]
    exact h
  · refine .inl (.inr ⟨u, ?_⟩)
    rw [upd_ne fun z => by rw [z, ht] at h; cases h]
    exact h
  · exact .inr h
theorem keys_le {L : List (Key × V)} (hL : (L.map (·.1)).Nodup) (hk : ∀ kv ∈ L, ∃ i z : Int, kv = (.inl i, .int z) ∧ 0 ≤ i ∧ i < 64) : L.length ≤ 64 := by
  have h := nodup_le (ys := (List.range 64).map fun (i : Nat) => (.inl (i : Int) : Key)) hL fun x hx => by
    obtain ⟨kv, h1, rfl⟩ := List.mem_map.mp hx
    obtain ⟨i, z, rfl, h2, h3⟩ := hk kv h1
    exact List.mem_map.mpr ⟨i.toNat, List.mem_range.mpr (by omega), by show Sum.inl _ = Sum.inl i; rw [Int.toNat_of_nonneg h2]⟩
  simpa using h
theorem putK_map {L : List (Key × V)} {k : Key} {v : V} : (putK L k v).map (·.1) = if (L.any fun kv => decide (kv.1 = k)) = true then L.map (·.1) else L.map (·.1) ++ [k] := by
  unfold putK
  split
  · rw [List.map_map]
    refine List.map_congr_left fun kv _ => ?_
    show (if kv.1 = k then (kv.1, v) else kv).1 = kv.1
    split <;> rfl
  · rw [List.map_append]
    rfl
theorem putK_nodup {L : List (Key × V)} {k : Key} {v : V} (h : (L.map (·.1)).Nodup) : ((putK L k v).map (·.1)).Nodup := by
  rw [putK_map]
  split
  · exact h
  · rename_i q
    refine List.nodup_append.mpr ⟨h, by simp, fun a ha b hb e => q ?_⟩
    have hb : b = k := by simpa using hb
    obtain ⟨kv, h1, h2⟩ := List.mem_map.mp ha
    exact List.any_eq_true.mpr ⟨kv, h1, decide_eq_true (h2.trans (e.trans hb))⟩
theorem putK_rng {L : List (Key × V)} {i z : Int} (hk : ∀ kv ∈ L, ∃ i z : Int, kv = (.inl i, .int z) ∧ 0 ≤ i ∧ i < 64) (h0 : 0 ≤ i) (h1 : i < 64) : ∀ kv ∈ putK L (.inl i) (.int z), ∃ i z : Int, kv = (.inl i, .int z) ∧ 0 ≤ i ∧ i < 64 := by
  intro kv h
  unfold putK at h
  split at h
  · obtain ⟨kv', h2, rfl⟩ := List.mem_map.mp h
    split
    · rename_i e
      exact ⟨i, z, by rw [e], h0, h1⟩
    · exact hk kv' h2
  · rcases List.mem_append.mp h with h | h
    · exact hk kv h
    · have e : kv = (.inl i, .int z) := by simpa using h
      exact ⟨i, z, e, h0, h1⟩
abbrev rAdd' : R2 := rI0 fun i j => .int (i + j)
abbrev rMul' : R2 := rI CMul fun i j => .int (i * j)
abbrev rMod' : R2 := rI (fun _ j => 0 < j) fun i j => .int (i % j)
abbrev rDiv' : R2 := rI CDiv fun i j => .int (i / j)
abbrev rPow' : R2 := rI CPow fun i j => .int (i ^ j.toNat)
abbrev rGe' : R2 := rI0 fun i j => .bl (decide (j ≤ i))
def draw_tail : TS :=
  tSeq (tIfS (tTest (tOp rGe' (tVar 4) (tOp rPow' (tC (.int 10)) (tC (.int 18)))))
      (tSeq (sDPut (tDGet (tVar 1) (tC (.str "rests"))) (tVar 3) (tOp rDiv' (tVar 4) (tVar 2))) (tRet (tOp rMod' (tVar 4) (tVar 2)))) tNext)
    (tSeq (tAsg (tOp rMod' (tOp rAdd' (tVar 4) (tOp rMul' (tC (.int 104729)) (tDGet (tVar 1) (tC (.str "count"))))) (tC (.int 4294967291))) (gName 5))
      (tSeq (tAsg (tOp rMod' (tOp rPow' (tVar 5) (tC (.int 5))) (tC (.int 4294967279))) (gName 5))
        (tRet (tOp rMod' (tOp rDiv' (tOp rMod' (tOp rAdd' (tOp rMul' (tOp rDiv' (tVar 5) (tC (.int 64))) (tC (.int 69621))) (tVar 5)) (tC (.int 4294967231))) (tC (.int 8))) (tVar 2)))))
theorem ok_draw (F : FnP K "_law_draw" S__law_draw f fd) (B : Blt mg) : FnOk P w K mg base (L2.CX P w) 1 f fd ["_law_script", "_law_town", "_law_many"] (spDraw K) := by
  refine F.ok sc__law_draw (fun vs H Q E h => by obtain ⟨sc, t, r, ns, m, rfl, _⟩ := h; rfl) fun cdv A outer s H vs Q E hr h => ⟨_,
    pss_cons (ps_dput (room1 hr) (pv 1) pe_str (pe_op op_add (L2.pe_dget (room1 hr) (pv 1) pe_str (fun _ _ => rfl)) pe_int) rfl)
      (pss_cons (ps_set (i := 3) sc__law_draw.nd rfl (.inl rfl) (pe_ifExp (pt_truth (pv 0) fun _ => rfl) (pe_op op_mod (L2.pe_dget (room1 hr) (pv 1) pe_str (fun _ _ => rfl)) (pe_callB call_len rfl B.len bb_len (pa_cons (pv 0) pa_nil))) pe_int))
      (pss_cons (ps_set (i := 4) sc__law_draw.nd rfl (.inl rfl) (pe_dget2 (room1 hr) (L2.pe_dget (room1 hr) (pv 1) pe_str (fun _ _ => rfl)) (pv 3) (pe_ifExp (pt_truth (pv 0) fun _ => rfl) (pe_ix ix_list (pv 0) (pv 3) (fun _ _ => rfl)) pe_int) ⟨rfl, rfl, rfl, rfl⟩))
      (pss_cons (ps_if (pt_cmpR op_ge (pv 4) (pe_op op_pow pe_int pe_int) (nomark _ (by decide) (by decide)))
        (pss_cons (ps_dput (room1 hr) (L2.pe_dget (room1 hr) (pv 1) pe_str (fun _ _ => rfl)) (pv 3) (pe_op op_fdiv (pv 4) (pv 2)) rfl) (pss_one (ps_ret (pe_op op_mod (pv 4) (pv 2))))) pss_nil)
      (pss_cons (ps_set (i := 5) sc__law_draw.nd rfl (.inl rfl) (pe_op op_mod (pe_op op_add (pv 4) (pe_op op_mul pe_int (L2.pe_dget (room1 hr) (pv 1) pe_str (fun _ _ => rfl)))) pe_int))
      (pss_cons (ps_set (i := 5) sc__law_draw.nd rfl (.inl rfl) (pe_op op_mod (pe_op op_pow (pv 5) pe_int) pe_int))
      (pss_one (ps_ret (pe_op op_mod (pe_op op_fdiv (pe_op op_mod (pe_op op_add (pe_op op_mul (pe_op op_fdiv (pv 5) pe_int) pe_int) (pv 5)) pe_int) pe_int) (pv 2)))))))))
    , ?_⟩
  obtain ⟨sc, t, r, ns, m, rfl, hS, hn, ⟨htr, c, L, ht, hr', hL, hk⟩, hm0, hm1, hq⟩ := h
  have e1 : putK [((.inr "count" : Key), V.int c), (.inr "rests", V.ref r)] (.inr "count") (V.int (c + 1)) = [(.inr "count", .int (c + 1)), (.inr "rests", .ref r)] := rfl
  have eT1 : (upd H t (.dK [((.inr "count" : Key), V.int (c + 1)), (.inr "rests", .ref r)])) t = some (.dK [(.inr "count", .int (c + 1)), (.inr "rests", .ref r)]) := upd_same
  have eR1 : (upd H t (.dK [((.inr "count" : Key), V.int (c + 1)), (.inr "rests", .ref r)])) r = some (.dK L) := by rw [upd_ne (Ne.symm htr)]; exact hr'
  have hS1 := sql_upd (o := .dK [((.inr "count" : Key), V.int (c + 1)), (.inr "rests", .ref r)]) hS ht
  have keep1 : ∀ a o, H a = some o → ¬ (a = t ∨ a = r) → (upd H t (.dK [((.inr "count" : Key), V.int (c + 1)), (.inr "rests", .ref r)])) a = some o := fun a o e n => by
    rw [upd_ne fun z => n (.inl z)]
    exact e
  obtain ⟨H1, hH1⟩ : ∃ H1, H1 = upd H t (.dK [((.inr "count" : Key), V.int (c + 1)), (.inr "rests", .ref r)]) := ⟨_, rfl⟩
  rw [← hH1] at eT1 eR1 hS1 keep1
  have tail : ∀ (at' rest : Int), 0 ≤ at' → at' < 64 → draw_tail { nx := fun _ H' => Q .non H', rt := Q } [some (.ref sc), some (.ref t), some (.int m), some (.int at'), some (.int rest), none] H1 := fun at' rest h0 h1 => by
    refine ⟨.int rest, rfl, 10, 18, rfl, rfl, ⟨by decide, by decide, by decide⟩, rest, _, rfl, rfl, _, rfl, ?_⟩
    by_cases hb : (10 : Int) ^ (18 : Int).toNat ≤ rest
    · refine ite_t (decide_eq_true hb) ?_
      refine ⟨.int rest, rfl, .int m, rfl, rest, m, rfl, rfl, ⟨hm0, by omega⟩, .ref t, rfl, t, .ref r, rfl, .k (k := .inr "rests") eT1, .int at', rfl, r, _, rfl, .k (k := .inl at') eR1 ?_, .int rest, rfl, .int m, rfl, rest, m, rfl, rfl, hm0, ?_⟩
      · have hl : L.length ≤ 64 := keys_le hL hk
        rw [sizeLine_eq]
        omega
      · refine hq _ _ (Int.emod_nonneg _ (by omega)) (Int.emod_lt_of_pos _ hm0) (fun a o e n => ?_) ⟨htr, c + 1, _, by rw [upd_ne htr]; exact eT1, upd_same, putK_nodup hL, putK_rng hk h0 h1⟩
        rw [upd_ne fun z => n (.inr z)]
        exact keep1 a o e n
    · refine ite_f (decide_eq_false hb) ?_
      have hm2 : ∀ x : Int, 0 ≤ x % 4294967279 := fun x => Int.emod_nonneg _ (by decide)
      refine ⟨.int rest, rfl, .ref t, rfl, t, .int (c + 1), rfl, .k (k := .inr "count") eT1, 104729, c + 1, rfl, rfl, .inl ⟨by decide, by decide⟩, rest, _, rfl, rfl, _, _, rfl, rfl, (by show (0 : Int) < 4294967291; decide), ?_⟩
      have hx0 := Int.emod_nonneg (rest + 104729 * (c + 1)) (b := 4294967291) (by decide)
      have hx1 := Int.emod_lt_of_pos (rest + 104729 * (c + 1)) (b := 4294967291) (by decide)
      refine ⟨.int _, rfl, _, 5, rfl, rfl, ⟨by decide, by decide, by omega⟩, _, _, rfl, rfl, (by show (0 : Int) < 4294967279; decide), ?_⟩
      refine ⟨.int _, rfl, _, 64, rfl, rfl, ⟨by decide, by decide⟩, _, 69621, rfl, rfl, .inr ⟨by decide, by decide⟩, .int _, rfl, _, _, rfl, rfl, _, _, rfl, rfl, (by show (0 : Int) < 4294967231; decide), _, 8, rfl, rfl, ⟨by decide, by decide⟩, .int m, rfl, _, m, rfl, rfl, hm0, ?_⟩
      exact hq _ _ (Int.emod_nonneg _ (by omega)) (Int.emod_lt_of_pos _ hm0) keep1 ⟨htr, c + 1, L, eT1, eR1, hL, hk⟩
  have hval : ∀ at' : Int, ∀ o, valV L (.inl at') = o → ∀ d : Int, ∃ z, o.getD (.int d) = .int z := fun at' o e d => by
    cases o with
    | none => exact ⟨d, rfl⟩
    | some v =>
      unfold valV at e
      obtain ⟨kv, h1, h2⟩ := Option.map_eq_some_iff.mp e
      obtain ⟨i, z, e2, _⟩ := hk kv (List.mem_of_find?_eq_some h1)
      rw [e2] at h2
      exact ⟨z, h2.symm⟩
  have hput : DPut H t (.str "count") (.int (c + 1)) H1 := .inl ⟨_, .inr "count", ht, rfl, by rw [sizeLine_eq]; exact (by decide : (2 : Nat) < 16777216), hH1⟩
  have hd1 : IsD H1 r := .inl ⟨L, .inl eR1⟩
  refine ⟨.ref t, rfl, t, .int c, rfl, .k (k := .inr "count") ht, c, 1, rfl, rfl, .ref t, rfl, t, H1, rfl, hput, ?_⟩
  by_cases hns : ns = []
  · obtain ⟨z, hz⟩ := hval 0 _ rfl 0
    refine ⟨.ref sc, rfl, false, .inl ⟨_, hS1, by rw [hns]; rfl⟩, ?_⟩
    refine ite_f rfl ?_
    refine ⟨.ref t, rfl, t, .ref r, rfl, .k (k := .inr "rests") eT1, r, rfl, hd1, .int 0, rfl, .ref sc, rfl, false, .inl ⟨_, hS1, by rw [hns]; rfl⟩, ?_⟩
    refine ite_f rfl ?_
    refine ⟨_, .k (k := .inl 0) eR1, ?_⟩
    rw [hz]
    exact tail 0 z (by decide) (by decide)
  · have hpos : 0 < ns.length := List.length_pos_iff.mpr hns
    have he : (!(ns.map V.int).isEmpty) = true := by
      cases ns with
      | nil => exact absurd rfl hns
      | cons a b => rfl
    have a0 := Int.emod_nonneg (c + 1) (b := (ns.length : Int)) (by omega)
    have a1 := Int.emod_lt_of_pos (c + 1) (b := (ns.length : Int)) (by omega)
    refine ⟨.ref sc, rfl, true, .inl ⟨_, hS1, he.symm⟩, ?_⟩
    refine ite_t rfl ?_
    refine ⟨.ref t, rfl, t, .int (c + 1), rfl, .k (k := .inr "count") eT1, .ref sc, rfl, .ref sc, (ns.map V.int).length, rfl, .inl ⟨_, hS1, rfl⟩, c + 1, _, rfl, rfl, by rw [List.length_map]; omega, ?_⟩
    rw [List.length_map]
    obtain ⟨at', hat⟩ : ∃ x, x = (c + 1) % (ns.length : Int) := ⟨_, rfl⟩
    rw [← hat] at a0 a1
    obtain ⟨d, hd⟩ : ∃ d, ns[at'.toNat]? = some d := ⟨_, List.getElem?_eq_getElem (by omega)⟩
    obtain ⟨z, hz⟩ := hval at' _ rfl d
    refine ⟨.ref t, rfl, t, .ref r, rfl, .k (k := .inr "rests") eT1, r, rfl, hd1, .int at', by rw [hat]; rfl, .ref sc, rfl, true, .inl ⟨_, hS1, he.symm⟩, ?_⟩
    refine ite_t rfl ?_
    refine ⟨.ref sc, rfl, .int at', by rw [hat]; rfl, sc, ns.map V.int, at', .int d, rfl, rfl, hS1, ?_, _, .k (k := .inl at') eR1, ?_⟩
    · unfold atI ixN
      rw [if_pos a0, List.length_map, if_pos a1]
      show (ns.map V.int)[at'.toNat]? = _
      rw [List.getElem?_map, hd]
      rfl
    · rw [hz]
      have q := tail at' z a0 (by omega)
      rw [hat] at q
      exact q
def spBegun : Sp := fun vs H Q _ => vs = [] ∧ ∀ t r H', (∀ a o, H a = some o → H' a = some o) → H t = none → H r = none → TownI t r H' → Q (.ref t) H'
theorem ok_begun (F : FnP K "_law_begun" S__law_begun f fd) : FnOk P w K mg base (L2.CX P w) 1 f fd [] spBegun := by
  refine F.ok sc__law_begun (fun vs H Q E h => by rw [h.1]; rfl) fun cdv A outer s H vs Q E hr h => ⟨_,
    pss_one (ps_ret (pe_disp (pps_cons pe_str pe_int (pps_cons pe_str pe_dnewK pps_nil)) rfl rfl (by intro z; cases z) (by decide))), ?_⟩
  obtain ⟨rfl, hq⟩ := h
  intro t ht r hr
  have hr0 : H r = none := by
    by_cases e : r = t
    · rw [e]; exact ht
    · rw [← hr, upd_ne e]
  have htr : t ≠ r := fun e => by
    rw [← e, upd_same] at hr
    cases hr
  refine ⟨by rw [upd_ne htr, upd_same], [(.inr "count", .int 0), (.inr "rests", .ref r)], rfl, (by show 2 ≤ 15; decide), ?_⟩
  have e1 : mergeK [] [((.inr "count" : Key), V.int 0), (.inr "rests", V.ref r)] = [(.inr "count", .int 0), (.inr "rests", .ref r)] := rfl
  rw [e1]
  refine hq t r _ (fun a o e => ?_) ht hr0 ⟨htr, 0, [], upd_same, by rw [upd_ne (Ne.symm htr), upd_same], List.nodup_nil, fun _ h => nomatch h⟩
  have n1 : a ≠ t := fun z => by rw [z, ht] at e; cases e
  have n2 : a ≠ r := fun z => by rw [z, hr0] at e; cases e
  rw [upd_ne n1, upd_ne n2, upd_ne n1]
  exact e
end
/-! ### the draws over data -/
def Scr (K : PySem.W.Frag) (a : Addr) (ns : List Int) : D := .k (.ref a) fun I => SqL K I a (ns.map V.int)
def Tn (K : PySem.W.Frag) (tw : Tw) (x y : D) : Prop := ∃ (t r a : Addr) (T : List (Addr × Str)) (ns : List Int), tw = town t r T ∧ x = Scr K a ns ∧ y = .r (.ref t) ∧ ns.length ≤ 63
def sp__law_draw (K : PySem.W.Frag) : DSp := fun tw ds Q _ => ∃ (x y : D) (m : Int), ds = [x, y, dI m] ∧ Tn K tw x y ∧ 0 < m ∧ m ≤ 1000 ∧ ∀ d : Int, 0 ≤ d → d < m → Q (dI d)
section
variable {P : Program} {w : World} {K : PySem.W.Frag} {mg : Str → Option Value} {base : Heap} {f : Addr} {fd : FuncData}
theorem fv__law_draw (F : FnP K "_law_draw" S__law_draw f fd) (hm : mg "_law_draw" = some (.ref f)) (B : Blt mg) : FnV P w K mg base 1 "_law_draw" ["_law_script", "_law_town", "_law_many"] [] (sp__law_draw K) := by
  refine fnV_mk F ((ok_draw F B).imp fun vs H Q E h => ?_) hm (fun _ _ _ _ _ _ us hl => match us, hl with | [_, _, _], _ => rfl) fun n hn => absurd hn (List.not_mem_nil)
  obtain ⟨tw, X, ds, Qd, Ed, ok, ti, hX, r, ⟨x, y, m, rfl, ⟨t, rr, a, T, ns, rfl, rfl, rfl, hl⟩, h0, h1, hq⟩, kq, _⟩ := h
  cases r with
  | cons r1 r =>
    cases r with
    | cons r2 r =>
      cases r with
      | cons r3 r =>
        cases r
        obtain ⟨rfl, I0, s1, s2⟩ := r1
        cases r2
        cases r3
        refine ⟨a, t, rr, ns, m, rfl, s2 _ fun z o e => sub_hide _ _ (s1 z o e), hl, ti.1, h0, h1, fun d H' d0 d1 keep ti' => kq _ H' (dI d) (fun z o e n => keep z o e fun z' => n (.inl z')) ⟨⟨ti', tabs_keep ti.2 ti.1 keep⟩, fun z hz => ?_⟩ (.int d) (hq d d0 d1)⟩
        rcases hz with hz | hz
        · obtain ⟨_, c, L, e1, e2, _⟩ := ti'
          rcases hz with rfl | rfl
          · exact ⟨_, e1, trivial⟩
          · exact ⟨_, e2, trivial⟩
        · obtain ⟨ps, e⟩ := tabs_dk (t := t) (r := rr) (tabs_keep ti.2 ti.1 keep) z hz
          exact ⟨_, e, trivial⟩
end
/-! ### the law -/
section
variable {X : Cx} {CX : CXT} {k : Nat} {f C : Addr} {fd : FuncData} {sp : Sp} {E : L2.St → XK} {x : Str} {p pos : Pos}
theorem pe_callS0 (F : FnOk X.prog X.w X.K X.mg X.base CX k f fd [] sp) (hr : Room k X.A) (hg : Gl X x) (hm : X.mg x = some (.ref f)) (hk : PySem.W.keepIn X.K (.ref f) = true) (hb : Binds X.K fd [] []) (hx : ∀ σ, PassesAt CX X σ (E σ)) (hdb : (x == ("__debug__" : Str)) = false := by decide) :
    PE X (.Call (.Name x p) [] [] pos) (tCallS sp E tNil) := by
  refine ⟨fun pins s σ H Q I h => ?_⟩
  refine wpAny_Call_Name_kw (ld_glob I hg hm ?_ hdb)
  exact PySem.W.callWith_K0 I.kIn hk (run_fnS (us := []) (vs := []) F hr hb (hx σ) I .nil h)
end
def spLaw (K : PySem.W.Frag) : Sp := fun vs H Q _ => ∃ (a : Addr) (ns : List Int), vs = [.ref a] ∧ ns.length ≤ 63 ∧ SqL K H a (ns.map V.int) ∧ ∀ H', Q (.bl true) H'
section
variable {P : Program} {w : World} {K : PySem.W.Frag} {mg : Str → Option Value} {base : Heap} {x qual : Str} {params : Arguments} {st : Stmt} {rest : List Stmt} {scope : Scope} {f fb : Addr} {fd fdb : FuncData}
theorem pss_ex {X : Cx} {tw : Tw} {sts : List Stmt} {W : WX} : PSs X sts (fun D σ H => ∃ tw t, VSs X tw W sts t ∧ liftS tw W t D σ H) := ⟨fun pins s σ H D I ⟨tw, t, h, q⟩ => h.run pins s σ H D I q⟩
theorem law_ok {n0 n1 : Str} {N : List Str} {k : Nat} (F : FunD K x qual params (st :: rest) scope [] [] f fd) (S : FnScope (n0 :: n1 :: N) ["_law_script"] scope)
    (hst : ∀ (cdv : Value) (A : Around) (outer : List Env) (s : Shared) (H : Hp) (E : XK), Room k (A.deeper (envOfC qual scope s.heap.objs.size f cdv)) → PS (cxV P w K mg base (n0 :: n1 :: N) qual scope f cdv A outer s H E) st (tAsg (tCallS spBegun (WE (wE E)) tNil) (gName 1)))
    (hbody : ∀ (cdv : Value) (A : Around) (outer : List Env) (s : Shared) (H : Hp) (E : XK) (tw : Tw), Room k (A.deeper (envOfC qual scope s.heap.objs.size f cdv)) → Takes (cxV P w K mg base (n0 :: n1 :: N) qual scope f cdv A outer s H E) (wE E) → PassesOwn (model P w) (cxV P w K mg base (n0 :: n1 :: N) qual scope f cdv A outer s H E).A (cxV P w K mg base (n0 :: n1 :: N) qual scope f cdv A outer s H E).env (cxV P w K mg base (n0 :: n1 :: N) qual scope f cdv A outer s H E).xe →
      ∃ t : DS, VSs (cxV P w K mg base (n0 :: n1 :: N) qual scope f cdv A outer s H E) tw (wE E) rest t ∧ ∀ u v, Tn K tw u v → t (endsOf (fun d => d = dB true) fun _ => False) (.d u :: .d v :: List.replicate N.length .un)) :
    FnOk P w K mg base (L2.CX P w) (k + 1) f fd ["_law_script"] (spLaw K) := by
  refine F.ok S (fun vs H Q E h => by obtain ⟨a, ns, rfl, _⟩ := h; rfl) fun cdv A outer s H vs Q E hr h => ⟨_, pss_cons (hst cdv A outer s H E hr) (pss_ex (tw := ⟨fun _ => False, fun _ => True⟩) (W := wE E)), ?_⟩
  obtain ⟨a, ns, rfl, hl, hS, hq⟩ := h
  refine ⟨rfl, fun t r H1 keep ht hr' ti => ?_⟩
  obtain ⟨T, hT, hT2⟩ := hbody cdv A outer s H E (town t r []) hr (takes_of rfl rfl rfl rfl) (passes_of rfl)
  have hS1 : ∀ I', Sub (hide H1 fun z => z = t ∨ z = r) I' → SqL K I' a (ns.map V.int) := fun I' s1 => by
    have q : ∀ o, H a = some o → I' a = some o := fun o e => s1 a o (hide_of (keep a o e) fun z => by
      rcases z with z | z
      · rw [z, ht] at e; cases e
      · rw [z, hr'] at e; cases e)
    rcases hS with (h | ⟨u, h⟩) | h
    · exact .inl (.inl (q _ h))
    · exact .inl (.inr ⟨u, q _ h⟩)
    · exact .inr h
  have ok : Frm.Ok ⟨town t r [], fun z => z = t ∨ z = r, H1, H1⟩ := ⟨fun a h => h.elim id (fun z => by cases z), fun G G' e _ h => by
    obtain ⟨⟨h1, c, L, h2, h3, h4⟩, _⟩ := h
    exact ⟨⟨h1, c, L, by rw [e t (.inl (.inl rfl))]; exact h2, by rw [e r (.inl (.inr rfl))]; exact h3, h4⟩, (fun p hp => by cases hp)⟩⟩
  have R := rel_start (N := n0 :: n1 :: N) (vs := [.ref a, .ref t]) (ds := [Scr K a ns, .r (.ref t)]) ok ⟨ti, (fun p hp => by cases hp)⟩ (fun z hz => by
    obtain ⟨_, c, L, e1, e2, _⟩ := ti
    rcases hz with rfl | rfl
    · exact ⟨_, e1, trivial⟩
    · exact ⟨_, e2, trivial⟩) (.cons ⟨rfl, _, fun _ _ e => e, hS1⟩ (.cons rfl .nil))
  refine ⟨town t r [], T, hT, ⟨town t r [], fun z => z = t ∨ z = r, H1, H1⟩, fun _ => none, _, endsOf (fun d => d = dB true) fun _ => False, rfl, R, hT2 _ _ ⟨t, r, a, [], ns, rfl, rfl, rfl, hl⟩, ?_⟩
  refine ⟨fun _ _ _ _ _ _ q => (by cases q), fun v d own' Γ' σ' H' _ _ rv q => ?_, fun _ _ _ _ _ _ q => q.elim, fun _ _ _ _ _ _ q => q.elim, fun c own' Γ' σ' H' _ _ q => q.elim⟩
  subst q
  cases rv
  exact hq H'
end
end WL

set_option maxRecDepth 100000
set_option maxHeartbeats 1000000
namespace WL
open PySem PySem.Spec PyProof.Rows L2
/-! ### the law with tables of code objects -/
def spLawT (K : PySem.W.Frag) (T : List (Addr × Str)) : Sp := fun vs H Q _ => ∃ (a : Addr) (ns : List Int), vs = [.ref a] ∧ ns.length ≤ 63 ∧ SqL K H a (ns.map V.int) ∧ (∀ p ∈ T, H p.1 = some (.tbl #[])) ∧ ∀ H', Q (.bl true) H'
/-- the def's code object and its table of code objects -/
structure LamT (base : Heap) (mg : Str → Option Value) (T : List (Addr × Str)) (q : Str) (code : Value) (P : Addr) : Prop where
  code : ∃ c, code = .ref c ∧ LamX.TabB base mg c P
  mem : (P, q) ∈ T
  one : ∀ p ∈ T, p.1 = P → p.2 = q
section
variable {P : Program} {w : World} {K : PySem.W.Frag} {mg : Str → Option Value} {base : Heap} {x qual : Str} {params : Arguments} {st : Stmt} {rest : List Stmt} {scope : Scope} {f fb : Addr} {fd fdb : FuncData}
theorem law_okT2 (T : List (Addr × Str)) {TP : Addr} {n0 n1 : Str} {N : List Str} {k : Nat} (F : FunD K x qual params (st :: rest) scope [] [] f fd) (S : FnScope (n0 :: n1 :: N) ["_law_script"] scope) (LT : LamT base mg T (qual ++ ".<locals>." ++ "<lambda>") fd.code TP)
    (hst : ∀ (cdv : Value) (A : Around) (outer : List Env) (s : Shared) (H : Hp) (E : XK), Room k (A.deeper (envOfC qual scope s.heap.objs.size f cdv)) → PS (cxV P w K mg base (n0 :: n1 :: N) qual scope f cdv A outer s H E) st (tAsg (tCallS spBegun (WE (wE E)) tNil) (gName 1)))
    (hbody : ∀ (cdv : Value) (A : Around) (outer : List Env) (s : Shared) (H : Hp) (E : XK) (t r : Addr), LamT base mg T (qual ++ ".<locals>." ++ "<lambda>") cdv TP → Room k (A.deeper (envOfC qual scope s.heap.objs.size f cdv)) → Takes (cxV P w K mg base (n0 :: n1 :: N) qual scope f cdv A outer s H E) (wE E) → PassesOwn (model P w) (cxV P w K mg base (n0 :: n1 :: N) qual scope f cdv A outer s H E).A (cxV P w K mg base (n0 :: n1 :: N) qual scope f cdv A outer s H E).env (cxV P w K mg base (n0 :: n1 :: N) qual scope f cdv A outer s H E).xe →
      ∃ d : DS, VSs (cxV P w K mg base (n0 :: n1 :: N) qual scope f cdv A outer s H E) (town t r T) (wE E) rest d ∧ ∀ u v, Tn K (town t r T) u v → d (endsOf (fun d => d = dB true) fun _ => False) (.d u :: .d v :: List.replicate N.length .un)) :
    FnOk P w K mg base (L2.CX P w) (k + 1) f fd ["_law_script"] (spLawT K T) := by
  obtain ⟨oc, od, dV, kV, doc, pm, an, cdv, ct, osl, efd, lk, hcd, _, _⟩ := F.ex
  subst efd
  refine fn_of lk hcd S (fun vs H Q E h => by obtain ⟨a, ns, rfl, _⟩ := h; rfl) fun A outer s H vs Q E hr h => ⟨_, pss_cons (hst cdv A outer s H E hr) (pss_ex (tw := ⟨fun _ => False, fun _ => True⟩) (W := wE E)), ?_⟩
  obtain ⟨a, ns, rfl, hl, hS, hTb, hq⟩ := h
  refine ⟨rfl, fun t r H1 keep ht hr' ti => ?_⟩
  obtain ⟨d, hT, hT2⟩ := hbody cdv A outer s H E t r LT hr (takes_of rfl rfl rfl rfl) (passes_of rfl)
  have hS1 : ∀ I', Sub (hide H1 fun z => (z = t ∨ z = r) ∨ z ∈ T.map (·.1)) I' → SqL K I' a (ns.map V.int) := fun I' s1 => by
    have q : ∀ o, H a = some o → (∀ ps, o ≠ .tbl ps) → I' a = some o := fun o e n => s1 a o (hide_of (keep a o e) fun z => by
      rcases z with (z | z) | z
      · rw [z, ht] at e; cases e
      · rw [z, hr'] at e; cases e
      · obtain ⟨p, hp, ep⟩ := List.mem_map.mp z
        rw [← ep, hTb p hp] at e
        exact n _ (Option.some.inj e).symm)
    rcases hS with (h | ⟨u, h⟩) | h
    · exact .inl (.inl (q _ h (fun _ z => by cases z)))
    · exact .inl (.inr ⟨u, q _ h (fun _ z => by cases z)⟩)
    · exact .inr h
  have tb : LamX.Tabs T H1 := fun p hp => LamX.TabS.nil (keep _ _ (hTb p hp))
  have ok : Frm.Ok ⟨town t r T, fun z => (z = t ∨ z = r) ∨ z ∈ T.map (·.1), H1, H1⟩ := ⟨fun a h => h, fun G G' e ec h => by
    obtain ⟨⟨h1, c, L, h2, h3, h4⟩, h5⟩ := h
    refine ⟨⟨h1, c, L, by rw [e t (.inl (.inl rfl))]; exact h2, by rw [e r (.inl (.inr rfl))]; exact h3, h4⟩, fun p hp => ?_⟩
    obtain ⟨ps, q1, q2, q3⟩ := h5 p hp
    refine ⟨ps, by rw [e _ (.inr (List.mem_map.mpr ⟨p, hp, rfl⟩))]; exact q1, q2, fun pos cv hc => ?_⟩
    obtain ⟨c', rfl, hc'⟩ := q3 pos cv hc
    exact ⟨c', rfl, ec _ _ hc'⟩⟩
  have R := rel_start (N := n0 :: n1 :: N) (vs := [.ref a, .ref t]) (ds := [Scr K a ns, .r (.ref t)]) ok ⟨ti, tb⟩ (fun z hz => by
    obtain ⟨_, c, L, e1, e2, _⟩ := ti
    rcases hz with (rfl | rfl) | hz
    · exact ⟨_, e1, trivial⟩
    · exact ⟨_, e2, trivial⟩
    · obtain ⟨ps, e⟩ := tabs_dk (t := t) (r := r) tb z hz
      exact ⟨_, e, trivial⟩) (.cons ⟨rfl, _, fun _ _ e => e, hS1⟩ (.cons rfl .nil))
  refine ⟨town t r T, d, hT, ⟨town t r T, fun z => (z = t ∨ z = r) ∨ z ∈ T.map (·.1), H1, H1⟩, fun _ => none, _, endsOf (fun d => d = dB true) fun _ => False, rfl, R, hT2 _ _ ⟨t, r, a, T, ns, rfl, rfl, rfl, hl⟩, ?_⟩
  refine ⟨fun _ _ _ _ _ _ q => (by cases q), fun v d own' Γ' σ' H' _ _ rv q => ?_, fun _ _ _ _ _ _ q => q.elim, fun _ _ _ _ _ _ q => q.elim, fun c own' Γ' σ' H' _ _ q => q.elim⟩
  subst q
  cases rv
  exact hq H'
end
end WL

set_option maxRecDepth 100000
set_option maxHeartbeats 2000000
namespace WL
open PySem PySem.Spec PyProof.Rows L2 LamX
/-! ### _law_result -/
structure ResC (K : PySem.W.Frag) (mg : Str → Option Value) (cl : Str → Addr) : Prop where
  climb : mg "ClimbError" = some (.ref (cl "ClimbError"))
  rock : mg "InvalidRock" = some (.ref (cl "InvalidRock"))
  body : mg "InvalidBody" = some (.ref (cl "InvalidBody"))
  grip : mg "InvalidHold" = some (.ref (cl "InvalidHold"))
  limb : mg "InvalidLimb" = some (.ref (cl "InvalidLimb"))
  number : mg "InvalidNumber" = some (.ref (cl "InvalidNumber"))
  pose : mg "InvalidStance" = some (.ref (cl "InvalidStance"))
  text : mg "InvalidText" = some (.ref (cl "InvalidText"))
  no : mg "NoMove" = some (.ref (cl "NoMove"))
  undo : mg "NothingToUndo" = some (.ref (cl "NothingToUndo"))
  value : mg "ValueError" = none
/-- the class at D is the error x: what isinstance says of its instances -/
structure ErrC (K : PySem.W.Frag) (cl : Str → Addr) (x : Str) (D : Addr) : Prop where
  exc : ExcC K D
  climb : PySem.W.exmOne K (.ref D) (.ref (cl "ClimbError")) = some true
  is : ∀ p ∈ errNames, PySem.W.kitOne K (.ref D) (.ref (cl p.1)) = some (decide (p.1 = x))
  value : PySem.W.kitOne K (.ref D) (.type "ValueError") = some true
/-- what is made of the lambda's reading -/
def TTres (K : PySem.W.Frag) (cl : Str → Addr) : (XK → Hp → VK → Prop) → Hp → VK → Prop := fun tl H0 Q => ∀ H, (∀ a o, H0 a = some o → H a = some o) →
  tl (fun cls d H' => ∃ D x nm, cls = .ref D ∧ d = none ∧ (x, nm) ∈ errNames ∧ ErrC K cl x D ∧ ∀ p (u : Obj) H'', H' p = none → (∀ a o, H' a = some o → H'' a = some o) → u.dict = none → H'' p = some (.frz u (.tup [.str nm])) → Q (.ref p) H'') H
    (fun v H' => ∀ p (u : Obj), H' p = none → u.dict = none → Q (.ref p) (upd H' p (.frz u (.tup [.str "returns", v]))))
section
variable {X : Cx} {g : Addr} {cdg : Value} {q : Str} {cl : Str → Addr}
theorem takes_len {Y : Cx} {W : WX} (tk : Takes Y W) : Takes Y (fun cls d σ H => σ.length = Y.N.length → W cls d σ H) := fun u s' xx => by
  obtain ⟨a, B, sI, pins, σ, H, cls, d, e, I, nb, up, sky, na, os, ag, w⟩ := xx
  exact tk u s' ⟨a, B, sI, pins, σ, H, cls, d, e, I, nb, up, sky, na, os, ag, w I.len⟩
abbrev cxRes (X : Cx) (g : Addr) (cdg : Value) (s : Shared) (H : Hp) : Cx := (cxOf C8.CX0 X.prog X.w X.K X.mg X.base N__law_result "_law_result" (defScope S__law_result) g cdg X.A X.stack s H C8.E0).nox
theorem result_gives (B : Blt X.mg) (R : ResC X.K X.mg cl) (hr : Room 2 X.A) : GivesTo X N__law_result "_law_result" (defScope S__law_result) g cdg (defBody S__law_result) "_law_call" q (TTres X.K cl) := by
  intro f c' s H Q tl act hc h
  refine ⟨_, pss_cons (ps_asg (pe_tup (pa_cons pe_non (pa_cons pe_non pa_nil))) (pg_tup rfl (pgs_cons (pg_name (i := 1) sc__law_result.nd rfl (.inl rfl)) (pgs_cons (pg_name (i := 2) sc__law_result.nd rfl (.inl rfl)) pgs_nil))))
    (pss_try_keep (i := 3) (c := .ref (cl "ClimbError")) (tb := fun W D σ H => ∃ Ech : XK, (∀ cls d (σ' : L2.St) H', Ech cls d H' → σ'.length = 7 → W cls d σ' H') ∧ σ[0]? = some (some (.ref f)) ∧ H c' = some (CodeO c' q) ∧ tl Ech H fun v H' => D.nx (σ.set 2 (some v)) H') (Wout := fun _ _ _ _ => False)
      (tE := fun a cls d D σ H => ∃ Dd x nm, cls = .ref Dd ∧ d = none ∧ (x, nm) ∈ errNames ∧ ErrC X.K cl x Dd ∧ σ[1]? = some (some (.ref a)) ∧ σ.length = 7 ∧ ∀ p (u : Obj) H'', H p = none → (∀ a o, H a = some o → H'' a = some o) → u.dict = none → H'' p = some (.frz u (.tup [.str nm])) → D.rt (.ref p) H'')
      rfl rfl sc__law_result.nd rfl rfl ⟨rfl, rfl, .inl R.climb⟩ L2.takes0 (fun W pn xe tk _ => ?b)
      (fun a oe cls d pn hz hf => pss_one (ps_set (i := 1) sc__law_result.nd rfl (.inl rfl) (pv 3)))
      (pss_taken (pt_cmpR op_isN (pv 1) pe_non rfl) (pss_one (ps_ret (pe_tupF (pa_cons pe_str (pa_cons (pv 2) pa_nil))))))
      (fun a oe cls d pn hz hf => ?r)), ?_⟩
  case b =>
    refine ⟨fun pins s' σ H' D I h' => ?_⟩
    obtain ⟨Ech, hW, h1, h2, h3⟩ := h'
    exact (pss_one (ps_set (i := 2) sc__law_result.nd rfl (.inl rfl) (act _ pn xe Ech _ _ (takes_len tk) (fun cls d σ' H' e hl => hW cls d σ' H' e hl)))).run pins s' σ H' D I ⟨h1, h2, h3⟩
  case r =>
    refine ⟨fun pins s' σ H' D I h' => ?_⟩
    obtain ⟨Dd, x, nm, rfl, rfl, hx, EC, hs1, hl, hq⟩ := h'
    have hu : (X.A.deeper (envOfC "_law_result" (defScope S__law_result) s.heap.objs.size g cdg)).units + 1 < cLine := by
      have := (hr.deeper (envOfC "_law_result" (defScope S__law_result) s.heap.objs.size g cdg)).units
      omega
    have ISI : CallR ((cxRes X g cdg s H).tr ((a, oe) :: pn) (cxRes X g cdg s H).xe) (.builtin "isinstance") (rIsE X.K Dd a) := call_isK (X := cxRes X g cdg s H) EC.exc hz hf
    refine Exists.elim (p := fun t => PSs ((cxRes X g cdg s H).tr ((a, oe) :: pn) (cxRes X g cdg s H).xe) _ t ∧ t D σ H') ?ex fun t ht => ht.1.run pins s' σ H' D I ht.2
    refine ⟨_, pss_cons (ps_if (pt_cmpR op_isN (pv 1) pe_non rfl) pss_never pss_nil) (
      pss_cons (ps_set (i := 4) sc__law_result.nd rfl (by first | exact .inl rfl | exact .inr rfl) (pe_disp (pps_cons pe_str (pe_callB ISI (by rfl) B.isinstance bb_isinstance (pa_cons (pv 1) (pa_cons (pe_glob (v := .ref (cl "InvalidRock")) (by rfl) R.rock rfl) pa_nil))) (pps_cons pe_str (pe_callB ISI (by rfl) B.isinstance bb_isinstance (pa_cons (pv 1) (pa_cons (pe_glob (v := .ref (cl "InvalidBody")) (by rfl) R.body rfl) pa_nil))) pps_nil)) rfl rfl (by intro z; cases z) (by decide))) (
      pss_cons (ps_expr (pe_bm PySem.F.plainAttrs_dict PySem.F.slot_dict_update PySem.F.type_dict_update mt_updD (pv 4) (pa_cons (pe_disp (pps_cons pe_str (pe_callB ISI (by rfl) B.isinstance bb_isinstance (pa_cons (pv 1) (pa_cons (pe_glob (v := .ref (cl "InvalidHold")) (by rfl) R.grip rfl) pa_nil))) (pps_cons pe_str (pe_callB ISI (by rfl) B.isinstance bb_isinstance (pa_cons (pv 1) (pa_cons (pe_glob (v := .ref (cl "InvalidLimb")) (by rfl) R.limb rfl) pa_nil))) pps_nil)) rfl rfl (by intro z; cases z) (by decide)) pa_nil))) (
      pss_cons (ps_expr (pe_bm PySem.F.plainAttrs_dict PySem.F.slot_dict_update PySem.F.type_dict_update mt_updD (pv 4) (pa_cons (pe_disp (pps_cons pe_str (pe_callB ISI (by rfl) B.isinstance bb_isinstance (pa_cons (pv 1) (pa_cons (pe_glob (v := .ref (cl "InvalidNumber")) (by rfl) R.number rfl) pa_nil))) (pps_cons pe_str (pe_callB ISI (by rfl) B.isinstance bb_isinstance (pa_cons (pv 1) (pa_cons (pe_glob (v := .ref (cl "InvalidStance")) (by rfl) R.pose rfl) pa_nil))) pps_nil)) rfl rfl (by intro z; cases z) (by decide)) pa_nil))) (
      pss_cons (ps_expr (pe_bm PySem.F.plainAttrs_dict PySem.F.slot_dict_update PySem.F.type_dict_update mt_updD (pv 4) (pa_cons (pe_disp (pps_cons pe_str (pe_callB ISI (by rfl) B.isinstance bb_isinstance (pa_cons (pv 1) (pa_cons (pe_glob (v := .ref (cl "InvalidText")) (by rfl) R.text rfl) pa_nil))) (pps_cons pe_str (pe_callB ISI (by rfl) B.isinstance bb_isinstance (pa_cons (pv 1) (pa_cons (pe_glob (v := .ref (cl "NoMove")) (by rfl) R.no rfl) pa_nil))) pps_nil)) rfl rfl (by intro z; cases z) (by decide)) pa_nil))) (
      pss_cons (ps_expr (pe_bm PySem.F.plainAttrs_dict PySem.F.slot_dict_update PySem.F.type_dict_update mt_updD (pv 4) (pa_cons (pe_disp (pps_cons pe_str (pe_callB ISI (by rfl) B.isinstance bb_isinstance (pa_cons (pv 1) (pa_cons (pe_glob (v := .ref (cl "NothingToUndo")) (by rfl) R.undo rfl) pa_nil))) pps_nil) rfl rfl (by intro z; cases z) (by decide)) pa_nil))) (
      pss_cons (ps_lock (ps_setLc (i := 5) (own := [("_law_name", 6)]) rfl sc__law_result.nd rfl rfl (by rfl) (pi_keys (pv 4)) (blkOk_by (N := N__law_result) (sc := defScope S__law_result) (by decide +kernel)) (fun _ _ _ _ _ => pg_name (i := 6) sc__law_result.nd rfl (by first | exact .inl rfl | exact .inr rfl)) (fun _ _ _ _ _ => pts_one (pt_val (L2.pe_dget hu (pv 4) (pv 6) (fun _ _ => rfl)))) (fun _ _ _ _ _ => pv 6))) (
      pss_one (ps_ret (pe_ifExp (PW.pt (pw_and (pt_cmpR op_eq (pe_callB call_len (by rfl) B.len bb_len (pa_cons (pv 5) pa_nil)) pe_int rfl) (pw_and1 (pt_val (pe_callB ISI (by rfl) B.isinstance bb_isinstance (pa_cons (pv 1) (pa_cons (pe_bltn (v := .ty "ValueError") (by rfl) R.value (by decide +kernel) rfl) pa_nil))))))) (pe_tupF (pa_cons (pe_ix ix_list (pv 5) pe_int (fun _ _ => rfl)) pa_nil)) (pe_tupF (pa_cons pe_str pa_nil))))))))))), ?_⟩
    have hk : ∀ p ∈ errNames, PySem.W.kitOne X.K (.ref Dd) (.ref (cl p.1)) = some (decide (p.1 = x)) := EC.is
    unfold errNames at hk
    simp only [List.forall_mem_cons] at hk
    obtain ⟨k1, k2, k3, k4, k5, k6, k7, k8, k9, _⟩ := hk
    refine ⟨.ref a, hs1, rfl, false, (by rw [decide_eq_false (by intro z; cases z)]), ?_⟩
    refine iteB_f rfl ?_
    dsimp only [tNext, tSeq, tAsg, gName]
    refine disp2_read (fun H' Q' q => isi_read hs1 k1 q) (fun H' Q' q => isi_read hs1 k2 q) fun d hd0 => ?_
    have g1 : (σ.set 4 (some (.ref d)))[1]? = some (some (.ref a)) := by simpa using hs1
    have g4 : (σ.set 4 (some (.ref d)))[4]? = some (some (.ref d)) := by simp [hl]
    have gl : (σ.set 4 (some (.ref d))).length = 7 := by simpa using hl
    generalize σ.set 4 (some (.ref d)) = σ2 at g1 g4 gl ⊢
    refine upd_read g4 upd_same (by show 2 + 2 ≤ 1000; decide) (fun Q' q => disp2_read (fun H' Q' q => isi_read g1 k3 q) (fun H' Q' q => isi_read g1 k4 q) q) fun H2 m2 e2 => ?_
    dsimp only [tNext, tSeq, tAsg, gName]
    refine upd_read g4 e2 (by show 4 + 2 ≤ 1000; decide) (fun Q' q => disp2_read (fun H' Q' q => isi_read g1 k5 q) (fun H' Q' q => isi_read g1 k6 q) q) fun H3 m3 e3 => ?_
    dsimp only [tNext, tSeq, tAsg, gName]
    refine upd_read g4 e3 (by show 6 + 2 ≤ 1000; decide) (fun Q' q => disp2_read (fun H' Q' q => isi_read g1 k7 q) (fun H' Q' q => isi_read g1 k8 q) q) fun H4 m4 e4 => ?_
    dsimp only [tNext, tSeq, tAsg, gName]
    refine upd_read g4 e4 (by show 8 + 1 ≤ 1000; decide) (fun Q' q => disp1_read (fun H' Q' q => isi_read g1 k9 q) q) fun H5 m5 e5 => ?_
    dsimp only [tNext, tSeq, tAsg, gName]
    rw [errKvs_eq x] at e5
    have hm : ∀ b o, H' b = some o → b ≠ d ∧ H5 b = some o := fun b o e => by
      have nb : b ≠ d := ne_of_none e hd0
      exact ⟨nb, m5 b o nb (m4 b o nb (m3 b o nb (m2 b o nb (by rw [upd_ne nb]; exact e))))⟩
    refine ⟨d, _, e5, trivial, fun od => ?_⟩
    dsimp only [tNext, tSeq, tAsg, gName]
    refine lc_read gl g4 upd_same (errKvs_val x) (by show 9 ≤ 1000; decide) fun Dn hDn => ?_
    have hnd : d ≠ Dn := fun z => by rw [← z, upd_same] at hDn; cases hDn
    refine ⟨by rw [upd_ne hnd]; exact upd_same, ?_⟩
    rw [errKvs_res hx]
    have f1 : (σ2.set 5 (some (.ref Dn)))[1]? = some (some (.ref a)) := by simpa using g1
    have f5 : (σ2.set 5 (some (.ref Dn)))[5]? = some (some (.ref Dn)) := by simp [gl]
    obtain ⟨H6, hH6⟩ : ∃ H6, H6 = upd (upd (upd H5 d (.frz od (.dK (errKvs x)))) Dn (.lst [.str nm])) d (.dK (errKvs x)) := ⟨_, rfl⟩
    have e6 : H6 Dn = some (.lst [.str nm]) := by rw [hH6, upd_ne (Ne.symm hnd), upd_same]
    have m6 : ∀ b o, H' b = some o → H6 b = some o := fun b o e => by
      obtain ⟨nb, e'⟩ := hm b o e
      have nD : b ≠ Dn := fun z => by
        rw [← z, upd_ne nb, e'] at hDn
        cases hDn
      rw [hH6, upd_ne nb, upd_ne nD, upd_ne nb]
      exact e'
    show tRet _ D (σ2.set 5 (some (.ref Dn))) (upd (upd (upd H5 d (.frz od (.dK (errKvs x)))) Dn (.lst [.str nm])) d (.dK (errKvs x)))
    rw [← hH6]
    refine ⟨.ref Dn, f5, .ref Dn, 1, rfl, .inl ⟨_, .inl (.inl e6), rfl⟩, rfl, true, rfl, ?_⟩
    refine iteB_t rfl ?_
    refine isi_readT f1 EC.value ⟨true, rfl, ?_⟩
    refine iteB_t rfl ?_
    refine ⟨.ref Dn, f5, Dn, [.str nm], 0, .str nm, rfl, rfl, .inl (.inl e6), rfl, (by show 1 ≤ sizeLine; rw [sizeLine_eq]; decide), fun p u hp hu => ?_⟩
    refine hq p u _ ?_ (fun b o e => ?_) hu upd_same
    · cases e : H' p with
      | none => rfl
      | some o => rw [m6 p o e] at hp; cases hp
    rw [upd_ne (ne_of_none (m6 b o e) hp)]
    exact m6 b o e
  show _ ∧ _
  refine ⟨by show 2 ≤ sizeLine; rw [sizeLine_eq]; decide, fun p hp => ?_⟩
  have hcp : ∀ b o, H b = some o → (upd H p (.tup [.non, .non])) b = some o := fun b o e => by rw [upd_ne (ne_of_none e hp)]; exact e
  refine ⟨p, [.non, .non], rfl, .inl (.inl upd_same), rfl, .non, [.non], rfl, .non, [], rfl, rfl, ?_⟩
  refine ⟨_, fun cls d σ' H' e hl => ?imp, rfl, hcp _ _ hc, Eq.mp (congrArg (tl _ _) (funext fun v => funext fun H' => propext ⟨fun z => ?p1, fun z => ?p2⟩)) (h _ hcp)⟩
  case imp =>
    obtain ⟨D, x, nm, rfl, rfl, hx, EC, hq⟩ := e
    refine ⟨true, EC.climb, fun _ a ha => ⟨.ref a, by simp [hl], ?_⟩, fun z => by cases z⟩
    exact ⟨D, x, nm, rfl, rfl, hx, EC, by simp [hl], by simp [hl], hq⟩
  case p1 => exact ⟨.non, rfl, rfl, true, rfl, rfl, v, rfl, (by show 2 ≤ sizeLine; rw [sizeLine_eq]; decide), z⟩
  case p2 =>
    obtain ⟨v1, e1, _, k, ek, hk, v2, e2, _, q⟩ := z
    have e2 : some (some v) = some (some v2) := e2
    cases e2
    exact q
end
end WL

set_option maxRecDepth 100000
set_option maxHeartbeats 2000000
namespace WL
open PySem PySem.Spec PyProof.Rows L2 LamX
/-! ### a lambda is made: of what was known, the table at P alone changes -/
def ExtP (P : Addr) (H H' : Hp) : Prop := ∀ b o, H b = some o → b ≠ P → H' b = some o
structure Made (X : Cx) (pins : List (Addr × Obj)) (σ : L2.St) (H : Hp) (T : List (Addr × Str)) (P : Addr) (q : Str) (params : Arguments) (body : Expr) (scope : Scope) (f c' : Addr) (pm ctv : Value) (H1 : Hp) (s' : Shared) : Prop where
  inv : L2.Inv X pins σ H1 s'
  keep : ExtP P H H1
  tabs : Tabs T H1
  obj : s'.heap.get? f = some (PySem.W.kla_obj "<lambda>" q params body scope (cloFrom X.env.cells scope.names []) pm c' ctv)
  new : H1 f = none
  nofr : f ∉ frs X.stack
  code : H1 c' = some (CodeO c' q)
section
variable {X : Cx} {pins : List (Addr × Obj)} {σ : L2.St} {H : Hp} {s : Shared}
theorem tab_more {T : List (Addr × Str)} {H H1 : Hp} {P c' : Addr} {q : Str} {ps : Array Value} {pos : Pos} (tabs : Tabs T H) (one : ∀ p ∈ T, p.1 = P → p.2 = q) (tr : TriplesOk ps.toList) (atP : H P = some (.tbl ps))
    (among : ∀ (pos : Pos) (cv : Value), codeAmong pos ps.toList = some cv → ∃ c, cv = .ref c ∧ H c = some (CodeO c q)) (keep : ExtP P H H1) (now : H1 P = some (.tbl (ps ++ #[rawInt pos.line, rawInt pos.col, .ref c']))) (code : H1 c' = some (CodeO c' q)) : Tabs T H1 := by
  have stay : ∀ {b : Addr} {n : Str}, H b = some (CodeO b n) → H1 b = some (CodeO b n) := fun {b n} e => keep b _ e fun z => by
    rw [z, atP] at e
    exact codeO_ne ps (Option.some.inj e).symm
  intro p hp
  by_cases hb : p.1 = P
  · rw [one p hp hb, hb]
    have el : (ps ++ #[rawInt pos.line, rawInt pos.col, .ref c']).toList = ps.toList ++ [rawInt pos.line, rawInt pos.col, .ref c'] := by simp
    refine ⟨_, now, by rw [el]; exact PySem.TriplesOk_snoc _ _ _ _ tr, fun p' cv hcv => ?_⟩
    rw [el] at hcv
    rcases among_app _ tr hcv with z | z
    · obtain ⟨c0, e1, e2⟩ := among p' cv z
      exact ⟨c0, e1, stay e2⟩
    · exact ⟨c', z, code⟩
  · obtain ⟨ps', a1, a2, a3⟩ := tabs p hp
    refine ⟨ps', keep _ _ a1 hb, a2, fun p' cv hcv => ?_⟩
    obtain ⟨c0, e1, e2⟩ := a3 p' cv hcv
    exact ⟨c0, e1, stay e2⟩
theorem lam_mk {T : List (Addr × Str)} {c P : Addr} {params : Arguments} {body : Expr} {scope : Scope} {pos : Pos} {Err Q : Value → Shared → Prop} (J : L2.Inv X pins σ H s) (TB : TabB X.base X.mg c P) (ec : X.env.code = .ref c) (hm : (P, X.env.qual ++ "<lambda>") ∈ T)
    (one : ∀ p ∈ T, p.1 = P → p.2 = X.env.qual ++ "<lambda>") (tabs : Tabs T H) (nod : defaultsOf params X.env = ([], [])) (cl : ∀ y ∈ scope.names, y.2 = .free → ∃ c, X.env.cells.lookup y.1 = some c)
    (go : ∀ f c' pm ctv H1 s', Made X pins σ H T P (X.env.qual ++ "<lambda>") params body scope f c' pm ctv H1 s' → Q (.ref f) s') : wpAny (model X.prog X.w) X.A (eval (.Lambda params body scope pos) X.env) Q Err s := by
  refine PySem.W.kla_eval nod ?_
  obtain ⟨ps, atP, tr, among⟩ := tabs _ hm
  have objP : s.heap.get? P = some { cls := .none, data := .fields ps } := J.hok P _ atP
  have bm : s.heap.BuiltinsAt X.mg P := TB.bm.keeps J.bk
  have far : ∀ f, s.heap.objs.size ≤ f → f ∉ frs X.stack := fun f hf z => (List.mem_cons.mp (J.stkSub _ z)).elim (fun e => by have h1 := J.lt; rw [← e] at h1; exact Nat.lt_irrefl _ (Nat.lt_of_lt_of_le h1 hf)) (J.nofs hf)
  cases look : codeAmong pos ps.toList with
  | some cv =>
    obtain ⟨c', rfl, co⟩ := among pos cv look
    refine PySem.W.kla_makeFunctionHit (mg := X.mg) (c := c) (P := P) (ps := ps) (closure_ok cl) J.ok.glob (J.mod.glob.keeps J.bk) ec (TB.code.keeps J.bk) objP tr look bm fun ctv h' tk hx big => ?_
    exact go _ c' ((X.mg "__name__").getD .none) ctv H _ ⟨J.kept fun b o e => Heap.get?_push_of_some _ (hx b o e), fun _ _ e _ => e, tabs, Heap.get?_push_size _ rfl, J.hok.fresh big, far _ big, co⟩
  | none =>
    refine PySem.W.kla_makeFunction (mg := X.mg) (c := c) (P := P) (ps := ps) (closure_ok cl) J.ok.glob (J.mod.glob.keeps J.bk) ec (TB.code.keeps J.bk) objP tr look TB.gP bm fun c' ctv h' tk hx hge hlt ⟨c2, oc, vs, t, e2, hoc, hd, hv⟩ htb => ?_
    cases e2
    have big : s.heap.objs.size ≤ h'.objs.size := by omega
    have nC : H c' = none := J.hok.fresh hge
    have J1 := inv_table (t' := tk) (more := #[rawInt pos.line, rawInt pos.col, .ref c']) (h' := h'.push (PySem.W.kla_obj "<lambda>" (X.env.qual ++ "<lambda>") params body scope (cloFrom X.env.cells scope.names []) ((X.mg "__name__").getD .none) c' ctv)) J atP (fun b o hb e => Heap.get?_push_of_some _ (hx b o hb e))
      (Heap.get?_push_of_some _ htb) hge ⟨oc, vs, t, Heap.get?_push_of_some _ hoc, hd, hv⟩
    have keep : ExtP P H (upd (upd H P (.tbl (ps ++ #[rawInt pos.line, rawInt pos.col, .ref c']))) c' (CodeO c' (X.env.qual ++ "<lambda>"))) := fun b o e n => by
      rw [upd_ne (ne_of_none e nC), upd_ne n]
      exact e
    refine go _ c' ((X.mg "__name__").getD .none) ctv _ _ ⟨J1, keep, tab_more (pos := pos) tabs one tr atP among keep ?_ upd_same, Heap.get?_push_size _ rfl, ?_, far _ big, upd_same⟩
    · rw [upd_ne (ne_of_none atP nC), upd_same]
    · have n1 : h'.objs.size ≠ c' := by omega
      have n2 : h'.objs.size ≠ P := Nat.ne_of_gt (Nat.lt_of_lt_of_le (Heap.lt_size objP) big)
      rw [upd_ne n1, upd_ne n2]
      exact J.hok.fresh big
end
/-! ### _law_result(lambda: body) -/
def dRes (ec : Str → Addr) (d : DE) : DE := fun Γ Q _ => d Γ (fun x => x.dat fun y => Q (.c (.p (.tuple [.str "returns", y])))) fun c => ∃ x nm, c = .ref (ec x) ∧ (x, nm) ∈ errNames ∧ Q (.c (.p (.tuple [.str nm])))
section
variable {X : Cx} {tw : Tw} {W : WX}
theorem ve_res {ec : Str → Addr} {g : Addr} {fd : FuncData} {T : List (Addr × Str)} {t0 r0 P : Addr} {k : Nat} {params : Arguments} {body : Expr} {scope : Scope} {d : DE} {p lpos pos : Pos} (G : FnP X.K "_law_result" S__law_result g fd) (hm : X.mg "_law_result" = some (.ref g)) (B : Blt X.mg) (RC : ResC X.K X.mg ec)
    (EC : ∀ q ∈ errNames, ErrC X.K ec q.1 (ec q.1)) (L : LamT X.base X.mg T (X.env.qual ++ "<lambda>") X.env.code P) (htw : tw = town t0 r0 T) (hr : Room (k + 2) X.A) (hg : Gl X "_law_result") (S : lamSB X.env.scope scope = true) (nod : defaultsOf params X.env = ([], []))
    (hbind : ∀ (q : Str) (cl : List (Str × Addr)) (pm cv ctv : Value), bindArgs (PySem.W.kla_fn "<lambda>" q params body scope cl pm cv ctv) ⟨[], []⟩ = pure [])
    (hbody : ∀ (A : Around) (outer : List Env) (s : Shared) (H : Hp) (E : XK) (f c' : Addr), Room k (A.deeper (lamEnv X scope s.heap.objs.size f c')) → Takes (lamCx X A outer s H E scope f c') (wE E) → VE (lamCx X A outer s H E scope f c') tw (wE E) body d) :
    VE X tw W (.Call (.Name "_law_result" p) [.Lambda params body scope lpos] [] pos) (dRes ec d) := by
  obtain ⟨oc, od, dV, kV, doc, pm, an, cdv, ct, osl, efd, lk, hcg, hD, hK⟩ := G.ex
  have hb := G.bindsN (ps := ["_law_call"]) fun _ _ _ _ _ _ us hl => match us, hl with | [_], _ => rfl
  subst efd
  obtain ⟨c, ec1, TB⟩ := L.code
  refine ⟨fun pins s σ H Q I h => ?_⟩
  obtain ⟨F, own, Γ, Qd, Ed, ht, R, h, kont, kx⟩ := h
  subst htw
  have ti : TownI t0 r0 H ∧ Tabs T H := by have z := R.ti; rw [ht] at z; exact z
  refine wpAny_Call_Name_kw (ld_glob I hg hm ?_ (by decide))
  refine PySem.W.callWith_K (h₀ := X.base) I.ok.mod.kin G.kp ?_ (by rfl) (by rfl)
  show wpAny _ _ (spliced ((false, eval (.Lambda params body scope lpos) X.env) :: backTo pos (starEach [] X.env))) _ _ s
  refine Calls.spliced_cons (lam_mk I TB ec1 L.mem L.one ti.2 nod ((lamS_by S).has I.ok) fun f c' pm' ctv H1 s' M => Calls.spliced_nil ⟨M.inv.kIn, ?_⟩)
  have inT : F.tw.T P := by rw [ht]; exact .inr (List.mem_map.mpr ⟨_, L.mem, rfl⟩)
  have e1 : Ext F H H1 := fun a o e n => M.keep a o e fun z => n (by rw [z]; exact inT)
  have keepT : TownI t0 r0 H1 := by
    obtain ⟨h1, cc, L1, h2, h3, h4⟩ := ti.1
    obtain ⟨ps, hP, _⟩ := ti.2 _ L.mem
    refine ⟨h1, cc, L1, M.keep _ _ h2 fun z => ?_, M.keep _ _ h3 fun z => ?_, h4⟩
    · rw [z] at h2; rw [show H P = some _ from hP] at h2; cases h2
    · rw [z] at h3; rw [show H P = some _ from hP] at h3; cases h3
  have xT : ∀ {H' : Hp}, TownI t0 r0 H' → Tabs T H' → ∀ a, F.tw.T a → ∃ o, H' a = some o ∧ notTup o := fun {H'} a1 a2 a h => by
    rw [ht] at h
    rcases h with (rfl | rfl) | h
    · obtain ⟨_, cc, L1, h2, _⟩ := a1
      exact ⟨_, h2, trivial⟩
    · obtain ⟨_, cc, L1, _, h3, _⟩ := a1
      exact ⟨_, h3, trivial⟩
    · obtain ⟨ps, e⟩ := tabs_dk (t := t0) (r := r0) a2 a h
      exact ⟨_, e, trivial⟩
  have R1 : Rel F own Γ σ H1 := R.to e1 (by rw [ht]; exact ⟨keepT, M.tabs⟩) (xT keepT M.tabs)
  have grow : ∀ {Ha Hb : Hp}, Rel F own Γ σ Ha → (∀ a o, Ha a = some o → Hb a = some o) → Rel F own Γ σ Hb := fun {Ha Hb} Ra sub => by
    have same : ∀ a, F.tw.T a → Hb a = Ha a := fun a h => by
      obtain ⟨o, e, _⟩ := Ra.x a (Ra.ok.tx a h)
      rw [e, sub a o e]
    refine Ra.to (.of sub) (Ra.ok.st Ha Hb same (fun a q e => sub _ _ e) Ra.ti) fun a h => ?_
    obtain ⟨o, e, n⟩ := Ra.x a (Ra.ok.tx a h)
    exact ⟨o, sub _ _ e, n⟩
  have rc : codeAny (model X.prog X.w) X.A (.call (.ref g) ⟨[.ref f], []⟩) (CR C8.CX0 X.stack X.prog X.w H1 s' Q C8.E0) s' := by
    refine run_ofS (N := N__law_result) (ps := ["_law_call"]) (us := [.ref f]) (vs := [.ref f]) lk hcg sc__law_result hr M.inv.env0 (hb s' [.ref f] M.inv.kIn rfl) (.cons rfl .nil) rfl fun hr' => ?_
    have act := result_gives (X := X) (g := g) (cdg := cdv) (q := X.env.qual ++ "<lambda>") B RC (hr.mono (by omega)) f c' s' H1 Q (fun E' H' Q' => lift (town t0 r0 T) (wE E') d σ H' Q')
      (fun W pn xe E' p1 p2 tk hW => pe_act (i := 0) M.inv (lamS_by S) M.obj M.new M.nofr (hbind _ _ _ _ _) tk hW hr' (fun A outer s2 H2 hr2 => hbody A outer s2 H2 E' f c' hr2 (takes_of rfl rfl rfl rfl)) rfl (.inl rfl)) M.code fun H2 sub => ?_
    · obtain ⟨t', ht', hq'⟩ := act
      exact ⟨t', ht'.nox, hq'⟩
    · have R2 := grow R1 sub
      have e2 : Ext F H H2 := e1.trans (.of sub)
      refine ⟨F, own, Γ, _, _, ht, R2, h, fun v H' x R' e' rv q => ?_, fun cc H' R' e' q => ?_⟩
      · obtain ⟨y, q1, q2, _⟩ := AV.dat_rep rv q
        intro p u hp hu
        exact kont (.ref p) _ _ (R'.new hp) ((e2.trans e').trans (ext_new hp)) (R'.newT hp hu (.cons (.str "returns") (.cons q2 .nil))) q1
      · obtain ⟨x, nm, rfl, hx, q⟩ := q
        refine ⟨_, x, nm, rfl, rfl, hx, EC _ hx, fun p u H'' hp sub' hu hpp => ?_⟩
        have R3 := grow R' sub'
        refine kont (.ref p) H'' (.c (.p (.tuple [.str nm]))) R3 ((e2.trans e').trans (.of sub')) ?_ q
        exact Dq.tup (hide_of hpp fun z => R'.free hp z) hu (.cons (.str nm) .nil)
  refine wpAny_call (codeAny_mono rc fun r s2 hq => ?_)
  cases r with
  | error e => exact (show False from hq).elim
  | ok fl =>
    cases fl with
    | ret u => exact M.inv.after hq
    | next => exact False.elim hq
    | brk => exact False.elim hq
    | cont => exact False.elim hq
end
theorem lamB {sc scope : Scope} (h : lamSB sc scope = true) : lamSB sc scope = true := h
/-! ### readings of it -/
def ResE (ec : Str → Addr) (Q : AV → Prop) : Value → Prop := fun c => ∃ x nm, c = .ref (ec x) ∧ (x, nm) ∈ errNames ∧ Q (.c (.p (.tuple [.str nm])))
theorem r_res {ec : Str → Addr} {d : DE} {Γ : List SV} {Q : AV → Prop} {E : Value → Prop} (h : d Γ (fun x => x.dat fun y => Q (.c (.p (.tuple [.str "returns", y])))) (ResE ec Q)) : dRes ec d Γ Q E := h
section
variable {ec : Str → Addr} {Q : AV → Prop}
theorem q_eRock (h : Q (.c (.p (.tuple [.str "rock"])))) : ResE ec Q (.ref (ec "InvalidRock")) := ⟨_, _, rfl, by decide, h⟩
theorem q_eBody (h : Q (.c (.p (.tuple [.str "body"])))) : ResE ec Q (.ref (ec "InvalidBody")) := ⟨_, _, rfl, by decide, h⟩
theorem q_eGrip (h : Q (.c (.p (.tuple [.str "grip"])))) : ResE ec Q (.ref (ec "InvalidHold")) := ⟨_, _, rfl, by decide, h⟩
theorem q_eLimb (h : Q (.c (.p (.tuple [.str "limb"])))) : ResE ec Q (.ref (ec "InvalidLimb")) := ⟨_, _, rfl, by decide, h⟩
theorem q_eNumber (h : Q (.c (.p (.tuple [.str "number"])))) : ResE ec Q (.ref (ec "InvalidNumber")) := ⟨_, _, rfl, by decide, h⟩
theorem q_ePose (h : Q (.c (.p (.tuple [.str "pose"])))) : ResE ec Q (.ref (ec "InvalidStance")) := ⟨_, _, rfl, by decide, h⟩
theorem q_eText (h : Q (.c (.p (.tuple [.str "text"])))) : ResE ec Q (.ref (ec "InvalidText")) := ⟨_, _, rfl, by decide, h⟩
theorem q_eNo (h : Q (.c (.p (.tuple [.str "no"])))) : ResE ec Q (.ref (ec "NoMove")) := ⟨_, _, rfl, by decide, h⟩
theorem q_eUndo (h : Q (.c (.p (.tuple [.str "undo"])))) : ResE ec Q (.ref (ec "NothingToUndo")) := ⟨_, _, rfl, by decide, h⟩
end
/-! ### the classes, looked at -/
def errB (K : PySem.W.Frag) : Bool := errNames.all fun q =>
  He.eqO (PySem.W.findIn K (.ref (He.ga K q.1)) "__getattribute__") (some (some (.builtin "BaseException.__getattribute__"))) && (He.eqO (PySem.W.findIn K (.ref (He.ga K q.1)) "__getattr__") (some none) && (decide (PySem.W.subIn K (.ref (He.ga K q.1)) (.type "BaseException") = some true) &&
  (PySem.W.hasDictIn K (He.ga K q.1) && (He.eqO (PySem.W.findIn K (.ref (He.ga K q.1)) "__class__") (some (some (.builtin "object.__class__"))) && (He.eqO (PySem.W.specialIn K (.builtin "object.__class__") "__get__") (some (some (.builtin "getset_descriptor.__get__"))) &&
  (decide (PySem.W.takesIn K (.builtin "object.__class__") = some true) && (decide (PySem.W.mroIn K (He.ga K q.1) (.type "object") = some true) && (decide (PySem.W.exmOne K (.ref (He.ga K q.1)) (.ref (He.ga K "ClimbError")) = some true) &&
  (decide (PySem.W.kitOne K (.ref (He.ga K q.1)) (.type "ValueError") = some true) && errNames.all fun p => decide (PySem.W.kitOne K (.ref (He.ga K q.1)) (.ref (He.ga K p.1)) = some (decide (p.1 = q.1))))))))))))
theorem errB_ok {K : PySem.W.Frag} (h : errB K = true) : ∀ q ∈ errNames, ErrC K (He.ga K) q.1 (He.ga K q.1) := fun q hq => by
  unfold errB at h
  have h := List.all_eq_true.mp h q hq
  simp only [Bool.and_eq_true, List.all_eq_true, decide_eq_true_eq] at h
  obtain ⟨h1, h2, h3, h4, h5, h6, h7, h8, h9, h10, h11⟩ := h
  exact ⟨⟨He.eqO_ok h1, He.eqO_ok h2, h3, h4, He.eqO_ok h5, He.eqO_ok h6, h7, h8⟩, h9, h11, h10⟩
theorem lamT_of {K : PySem.W.Frag} {base : Heap} {mg : Str → Option Value} {T : List (Addr × Str)} {q x : Str} {params : Arguments} {body : List Stmt} {scope : Scope} {p : He.Defn} {fd : FuncData} (F : FunD K x x params body scope [] [] (He.fAd K p) fd) (TB : LamX.TabB base mg (He.cT K p).1 (He.cT K p).2)
    (m : ((He.cT K p).2, q) ∈ T) (one : ∀ z ∈ T, z.1 = (He.cT K p).2 → z.2 = q) : LamT base mg T q fd.code (He.cT K p).2 := by
  obtain ⟨oc, od, dV, kV, doc, pm, an, cdv, ct, osl, efd, lk, hcd, _, _⟩ := F.ex
  subst efd
  obtain ⟨c, rfl⟩ := He.codeIn_ref hcd
  refine ⟨⟨c, rfl, ?_⟩, m, one⟩
  have e : He.codeOf K p = c := He.codeOf_eq lk rfl
  have TB : LamX.TabB base mg (He.codeOf K p) (He.cT K p).2 := TB
  rw [e] at TB
  exact TB
end WL

namespace WL
open PySem PySem.Spec PyProof.Rows L2
set_option maxHeartbeats 0
def d_is_between : He.DefD := ⟨("is_between", none), "is_between", "is_between", defArgs S_is_between, defBody S_is_between, defScope S_is_between, [], []⟩
def d_are_between : He.DefD := ⟨("are_between", none), "are_between", "are_between", defArgs S_are_between, defBody S_are_between, defScope S_are_between, [], []⟩
def d_is_hold : He.DefD := ⟨("is_hold", none), "is_hold", "is_hold", defArgs S_is_hold, defBody S_is_hold, defScope S_is_hold, [], []⟩
def d_is_rock : He.DefD := ⟨("is_rock", none), "is_rock", "is_rock", defArgs S_is_rock, defBody S_is_rock, defScope S_is_rock, [], []⟩
def d_is_body : He.DefD := ⟨("is_body", none), "is_body", "is_body", defArgs S_is_body, defBody S_is_body, defScope S_is_body, [], []⟩
def d_check_rock : He.DefD := ⟨("check_rock", none), "check_rock", "check_rock", defArgs S_check_rock, defBody S_check_rock, defScope S_check_rock, [], []⟩
def d_check_body : He.DefD := ⟨("check_body", none), "check_body", "check_body", defArgs S_check_body, defBody S_check_body, defScope S_check_body, [], []⟩
def d_check_both : He.DefD := ⟨("check_both", none), "check_both", "check_both", defArgs S_check_both, defBody S_check_both, defScope S_check_both, [], []⟩
def d_check_hold : He.DefD := ⟨("check_hold", none), "check_hold", "check_hold", defArgs S_check_hold, defBody S_check_hold, defScope S_check_hold, [], []⟩
def d_apart_by : He.DefD := ⟨("apart_by", none), "apart_by", "apart_by", defArgs S_apart_by, defBody S_apart_by, defScope S_apart_by, [], []⟩
def d_have_room : He.DefD := ⟨("have_room", none), "have_room", "have_room", defArgs S_have_room, defBody S_have_room, defScope S_have_room, [], []⟩
def d_are_sorted : He.DefD := ⟨("are_sorted", none), "are_sorted", "are_sorted", defArgs S_are_sorted, defBody S_are_sorted, defScope S_are_sorted, [], []⟩
def d_is_kept : He.DefD := ⟨("is_kept", none), "is_kept", "is_kept", defArgs S_is_kept, defBody S_is_kept, defScope S_is_kept, [], []⟩
def d_is_good_one : He.DefD := ⟨("is_good_one", none), "is_good_one", "is_good_one", defArgs S_is_good_one, defBody S_is_good_one, defScope S_is_good_one, [], []⟩
def d_check_stance : He.DefD := ⟨("check_stance", none), "check_stance", "check_stance", defArgs S_check_stance, defBody S_check_stance, defScope S_check_stance, [], []⟩
def d_changed : He.DefD := ⟨("changed", none), "changed", "changed", defArgs S_changed, defBody S_changed, defScope S_changed, [], []⟩
def d_next_stances : He.DefD := ⟨("next_stances", none), "next_stances", "next_stances", defArgs S_next_stances, defBody S_next_stances, defScope S_next_stances, [], []⟩
def d_check_all : He.DefD := ⟨("check_all", none), "check_all", "check_all", defArgs S_check_all, defBody S_check_all, defScope S_check_all, [], []⟩
def d_ways_from : He.DefD := ⟨("ways_from", none), "ways_from", "ways_from", defArgs S_ways_from, defBody S_ways_from, defScope S_ways_from, [], []⟩
def d_led_back : He.DefD := ⟨("led_back", none), "led_back", "led_back", defArgs S_led_back, defBody S_led_back, defScope S_led_back, [], []⟩
def d_differ_in_one : He.DefD := ⟨("differ_in_one", none), "differ_in_one", "differ_in_one", defArgs S_differ_in_one, defBody S_differ_in_one, defScope S_differ_in_one, [], []⟩
def d_is_any_way : He.DefD := ⟨("is_any_way", none), "is_any_way", "is_any_way", defArgs S_is_any_way, defBody S_is_any_way, defScope S_is_any_way, [], []⟩
def d_does_top : He.DefD := ⟨("does_top", none), "does_top", "does_top", defArgs S_does_top, defBody S_does_top, defScope S_does_top, [], []⟩
def d_check_top : He.DefD := ⟨("check_top", none), "check_top", "check_top", defArgs S_check_top, defBody S_check_top, defScope S_check_top, [], []⟩
def d_found_climb : He.DefD := ⟨("found_climb", none), "found_climb", "found_climb", defArgs S_found_climb, defBody S_found_climb, defScope S_found_climb, [], []⟩
def d_climb : He.DefD := ⟨("climb", none), "climb", "climb", defArgs S_climb, defBody S_climb, defScope S_climb, [], []⟩
def d_fewest_moves : He.DefD := ⟨("fewest_moves", none), "fewest_moves", "fewest_moves", defArgs S_fewest_moves, defBody S_fewest_moves, defScope S_fewest_moves, [], []⟩
def d_is_climb : He.DefD := ⟨("is_climb", none), "is_climb", "is_climb", defArgs S_is_climb, defBody S_is_climb, defScope S_is_climb, [], []⟩
def d__law_result : He.DefD := ⟨("_law_result", none), "_law_result", "_law_result", defArgs S__law_result, defBody S__law_result, defScope S__law_result, [], []⟩
def d__law_is : He.DefD := ⟨("_law_is", none), "_law_is", "_law_is", defArgs S__law_is, defBody S__law_is, defScope S__law_is, [], []⟩
def d__law_draw : He.DefD := ⟨("_law_draw", none), "_law_draw", "_law_draw", defArgs S__law_draw, defBody S__law_draw, defScope S__law_draw, [], []⟩
def d__law_begun : He.DefD := ⟨("_law_begun", none), "_law_begun", "_law_begun", defArgs S__law_begun, defBody S__law_begun, defScope S__law_begun, [], []⟩
def d__law_rock : He.DefD := ⟨("_law_rock", none), "_law_rock", "_law_rock", defArgs S__law_rock, defBody S__law_rock, defScope S__law_rock, [], []⟩
def d__law_body : He.DefD := ⟨("_law_body", none), "_law_body", "_law_body", defArgs S__law_body, defBody S__law_body, defScope S__law_body, [], []⟩
def d__law_kept : He.DefD := ⟨("_law_kept", none), "_law_kept", "_law_kept", defArgs S__law_kept, defBody S__law_kept, defScope S__law_kept, [], []⟩
def d__law_all : He.DefD := ⟨("_law_all", none), "_law_all", "_law_all", defArgs S__law_all, defBody S__law_all, defScope S__law_all, [], []⟩
def d__law_near : He.DefD := ⟨("_law_near", none), "_law_near", "_law_near", defArgs S__law_near, defBody S__law_near, defScope S__law_near, [], []⟩
def d__law_levels : He.DefD := ⟨("_law_levels", none), "_law_levels", "_law_levels", defArgs S__law_levels, defBody S__law_levels, defScope S__law_levels, [], []⟩
def d__law_climb : He.DefD := ⟨("_law_climb", none), "_law_climb", "_law_climb", defArgs S__law_climb, defBody S__law_climb, defScope S__law_climb, [], []⟩
def d__law_top : He.DefD := ⟨("_law_top", none), "_law_top", "_law_top", defArgs S__law_top, defBody S__law_top, defScope S__law_top, [], []⟩
def d_law : He.DefD := ⟨("law", none), "law", "law", defArgs S_law, defBody S_law, defScope S_law, [], []⟩
def fnL : List He.DefD := [d_is_between, d_are_between, d_is_hold, d_is_rock, d_is_body, d_check_rock, d_check_body, d_check_both, d_check_hold, d_apart_by, d_have_room, d_are_sorted, d_is_kept, d_is_good_one, d_check_stance, d_changed, d_next_stances, d_check_all, d_ways_from, d_led_back, d_differ_in_one, d_is_any_way, d_does_top, d_check_top, d_found_climb, d_climb, d_fewest_moves, d_is_climb, d__law_result, d__law_is, d__law_draw, d__law_begun, d__law_rock, d__law_body, d__law_kept, d__law_all, d__law_near, d__law_levels, d__law_climb, d__law_top, d_law]
def faL : List He.Fa := [.glo "is_between", .glo "are_between", .glo "is_hold", .glo "is_rock", .glo "is_body", .glo "check_rock", .glo "check_body", .glo "check_both", .glo "check_hold", .glo "apart_by", .glo "have_room", .glo "are_sorted", .glo "is_kept", .glo "is_good_one", .glo "check_stance", .glo "changed", .glo "next_stances", .glo "check_all", .glo "ways_from", .glo "led_back", .glo "differ_in_one", .glo "is_any_way", .glo "does_top", .glo "check_top", .glo "found_climb", .glo "climb", .glo "fewest_moves", .glo "is_climb", .glo "_law_result", .glo "_law_is", .glo "_law_draw", .glo "_law_begun", .glo "_law_rock", .glo "_law_body", .glo "_law_kept", .glo "_law_all", .glo "_law_near", .glo "_law_levels", .glo "_law_climb", .glo "_law_top", .glo "law", .free "abs", .free "all", .free "any", .free "bool", .free "enumerate", .free "int", .free "isinstance", .free "len", .free "list", .free "max", .free "min", .free "range", .free "set", .free "sorted", .free "str", .free "sum", .free "tuple", .free "zip", .exc "InvalidRock", .exc "InvalidBody", .exc "InvalidHold", .exc "InvalidStance", .glo "InvalidRock", .glo "InvalidBody", .glo "InvalidHold", .glo "InvalidStance", .free "ValueError", .glo "ClimbError", .glo "InvalidRock", .glo "InvalidBody", .glo "InvalidHold", .glo "InvalidStance", .glo "InvalidNumber", .glo "InvalidLimb", .glo "InvalidText", .glo "NoMove", .glo "NothingToUndo"]
def looseL : List Str := (["ClimbError", "InvalidRock", "InvalidBody", "InvalidHold", "InvalidStance", "InvalidNumber", "InvalidLimb", "InvalidText", "NoMove", "NothingToUndo", "is_between", "are_between", "is_hold", "is_rock", "is_body", "check_rock", "check_body", "check_both", "check_hold", "apart_by", "have_room", "are_sorted", "is_kept", "is_good_one", "check_stance", "changed", "next_stances", "check_all", "ways_from", "led_back"] : List Str) ++ (["differ_in_one", "is_any_way", "does_top", "check_top", "found_climb", "climb", "fewest_moves", "is_climb", "_law_result", "_law_is", "_law_draw", "_law_begun", "_law_rock", "_law_body", "_law_kept", "_law_all", "_law_near", "_law_levels", "_law_climb", "_law_top"] : List Str)
def tfL : List He.Defn := [("law", none)]
def exL (K : PySem.W.Frag) : Bool := errB K
abbrev RW0 : PySem.W.OpenRow := PySem.W.OpenLaw.row PySem.Challenge.rw_wallholds_k09_tops
abbrev hkL : PySem.W.Hook := He.hookX 4 faL fnL [] tfL exL
def obL (s : PySem.W.SharedT) : He.AlX := He.obsX 4 faL fnL [] tfL exL (HandSHeadRun.getT s)
theorem obL_eq (s : PySem.W.SharedT) : obL s = hkL.obs s.abs := He.obsX_eq (HandSHeadRun.getT_eq s)
theorem runL (w : World) : HandSHeadRun.RunEq RW0 (PySem.W.view RW0.prog [55]) hkL obL 4000 looseL w := by
  intro os
  kernel_rfl
set_option maxHeartbeats 1000000
end WL

set_option maxRecDepth 100000
set_option maxHeartbeats 1000000
namespace WL
open PySem PySem.Spec PyProof.Rows L2
/-! ### what a run lets out, for every world -/
def CXW : CXT := fun outer H s E u s' => ∃ P w, L2.CX P w outer H s E u s'
theorem fn_cxw {P : Program} {w : World} {K : PySem.W.Frag} {mg : Str → Option Value} {base : Heap} {k : Nat} {f : Addr} {fd : FuncData} {ps : List Str} {sp : Sp} (F : FnOk P w K mg base (L2.CX P w) k f fd ps sp) : FnOk P w K mg base CXW k f fd ps sp :=
  ⟨F.len, fun A outer s H args us vs Q E hr he hb hv hs => codeAny_mono (F.run A outer s H args us vs Q E hr he hb hv hs) fun r s' h => by
    cases r with
    | error e => exact ⟨P, w, h⟩
    | ok fl =>
      cases fl with
      | ret u => exact h
      | next => exact h
      | brk => exact h
      | cont => exact h⟩
theorem cxw_false {H : Hp} {s : Shared} {e : Value} {s' : Shared} (h : CXW [] H s (fun _ _ _ => False) e s') : False := by
  obtain ⟨_, _, _, _, _, _, _, _, _, _, _, _, _, _, z⟩ := h
  exact z
end WL

section
set_option maxHeartbeats 0
open PySem PySem.W PySem.Calls PyProof.Rows
open PySem.Spec L2 WL in
theorem WL.holds_of (facts : ∀ {P : Program} {w : World} {K : PySem.W.Frag} {h : Heap} {mg : Str → Option Value} {f : Addr} (X : K.In h) (G : h.Ns mainGlobals mg) (hfa : mg ("law" : Str) = some (.ref f)) (cX : He.SaysX faL fnL [] tfL exL w h K), ∃ fd : FuncData, (∀ (s : Shared) (v : Value), BindsTo s fd ⟨[v], []⟩ [("_law_script", v)]) ∧ ∀ base : Heap, K.In base → base.Ns mainGlobals mg → (∀ p ∈ tfL.map (He.cT K), LamX.TabB base mg p.1 p.2) → FnOk P w K mg base (L2.CX P w) 12 f fd ["_law_script"] (spLawT K [((He.cT K ("law", none)).2, "law" ++ ".<locals>." ++ "<lambda>")])) : PySem.Challenge.rw_wallholds_k09_tops.Holds := by
  w_on; o_law
  refine HandSHeadRun.head_any (r := OpenLaw.row PySem.Challenge.rw_wallholds_k09_tops) (q := view (OpenLaw.row PySem.Challenge.rw_wallholds_k09_tops).prog [55]) (H := WL.hkL) (ob := WL.obL) (M := 4000) (loose := WL.looseL) (d := HandSHeadRun.topDef (OpenLaw.row PySem.Challenge.rw_wallholds_k09_tops).prog 55) (kwd := []) WL.obL_eq
    (by kernel_rfl) (fun s => by kernel_rfl) WL.runL (by kernel_rfl) (by kernel_rfl) (by kernel_rfl) (by rfl) (by first | assumption | decide +kernel) (by decide +kernel) ⟨rfl, rfl, rfl, rfl, rfl, by decide +kernel⟩ ?hw ?hc
  case hw => w_witness2
  case hc =>
    refine LamX.walk_ofTsE (l := PySem.Challenge.rw_wallholds_k09_tops) (n := 63) (k := 12) (x := "_law_script") (CX := fun w => L2.CX (PySem.Challenge.rw_wallholds_k09_tops).prog w) rfl (by decide) (by kernel_rfl) ⟨rfl, by decide, by decide⟩ ?F (fun _ _ _ _ _ z => WL.cxw_false ⟨_, _, z⟩)
    intro w mg fa h Y G hmg0
    obtain ⟨K, KX, c⟩ := Y
    have hmg : mg ("law" : PySem.Str) = some (.ref fa) := by
      have e : (HandSHeadRun.topDef (OpenLaw.row PySem.Challenge.rw_wallholds_k09_tops).prog 55).name = ("law" : PySem.Str) := by kernel_rfl
      rw [← e]
      exact hmg0
    obtain ⟨fd, hb, hF⟩ := facts (P := (PySem.Challenge.rw_wallholds_k09_tops).prog) (w := w) KX G hmg c
    refine ⟨K, KX, fd, WL.tfL.map (He.cT K), _, fun p hp => ?_, fun p hp => ?_, fun p hp => ?_, hb, fun H a ns hl _ hT hS => ⟨a, ns, rfl, hl, hS, fun p hp => ?_, fun _ => rfl⟩, hF⟩
    · obtain ⟨q, hq, rfl⟩ := List.mem_map.mp hp
      exact c.empty q hq
    · obtain ⟨q, hq, rfl⟩ := List.mem_map.mp hp
      exact c.out q hq
    · obtain ⟨q, hq, rfl⟩ := List.mem_map.mp hp
      exact codeHd_of_K KX (c.hd q hq)
    · simp only [List.mem_cons, List.not_mem_nil, or_false] at hp
      rcases hp with rfl
      · exact hT _ (List.mem_map.mpr ⟨("law", none), by unfold WL.tfL; simp, rfl⟩)
end

set_option maxRecDepth 100000
set_option maxHeartbeats 2000000
namespace WL
open PySem PySem.Spec PyProof.Rows L2
/-! ### a loop over functions -/
def adr (mg : Str → Option Value) (x : Str) : Addr := match mg x with
  | some (.ref a) => a
  | _ => 0
theorem adr_of {mg : Str → Option Value} {x : Str} {a : Addr} (h : mg x = some (.ref a)) : adr mg x = a := by unfold adr; rw [h]
def dForFL (i : Nat) (body : DS) (E : EndsD) : List V → List SV → Prop
  | [], Γ => E.nx Γ
  | v :: vs, Γ => body { nx := dForFL i body E vs, ct := dForFL i body E vs, bk := E.nx, rt := E.rt, ex := E.ex } (Γ.set i (.d (.r v)))
def dForF (i : Nat) (vs : List V) (body : DS) : DS := fun E Γ => dForFL i body E vs Γ
/-- the items as they are -/
def tFs (vs : List V) : TA := fun _ H Q => Q vs H
section
variable {X : Cx} {tw : Tw} {W : WX} {x : Str} {v : V} {vs : List V} {u : Value} {p pos : Pos} {es : List Expr} {sts : List Stmt} {t : DS} {i : Nat}
theorem pa_fnil : PA X [] (tFs []) := PA.mono pa_nil fun _ _ _ h => h
theorem pa_fcons (hg : Gl X x) (hm : X.mg x = some u) (r : RelV v u) (hr : PA X es (tFs vs)) (hd : (x == ("__debug__" : Str)) = false := by decide) (hs : starEach (Expr.Name x p :: es) X.env = (false, eval (Expr.Name x p) X.env) :: starEach es X.env := by rfl) : PA X (.Name x p :: es) (tFs (v :: vs)) :=
  PA.mono (pa_cons (pe_glob hg hm r hd) hr hs) fun _ _ _ h => h
theorem forF_sim {body : DS} {Dd : Ends} {σ : L2.St} {H : Hp} (hz : vs.length ≤ 1000) (h : liftS tw W (dForF i vs body) Dd σ H) : tFor (iSeq X.K (tTupF (tFs vs))) (gName i) (liftS tw W body) Dd σ H := by
  obtain ⟨F, own, Γ, E, ht, R, h, k⟩ := h
  refine ⟨line1000 hz, fun p o np ho => ?_⟩
  have e1 : Ext F H (upd H p (.frz o (.tup vs))) := ext_new np
  have R1 : Rel F own Γ σ (upd H p (.frz o (.tup vs))) := R.new np
  have vp : vis F own (upd H p (.frz o (.tup vs))) p = some (.frz o (.tup vs)) := vis_new R np
  refine ⟨p, rfl, .inr ⟨⟨vs, sqT_frz upd_same⟩, ?_⟩⟩
  generalize upd H p (.frz o (.tup vs)) = H1 at e1 R1 vp
  have k1 := k.gr (R.gr e1)
  refine ⟨fun j m σ' H' => m = vs.length - j ∧ j ≤ vs.length ∧ ∃ own' Γ', Rel F own' Γ' σ' H' ∧ Gr F own H1 own' H' ∧ dForFL i body E (vs.drop j) Γ', ⟨vs.length, by simp, Nat.zero_le _, own, Γ, R1, .refl, h⟩, ?_⟩
  rintro j m σ' H' ⟨rfl, hj, own', Γ', R', g, hl⟩
  have sq : SqT X.K H' p vs := sqT_frz (of_hide (g _ _ vp)).1
  by_cases lt : j < vs.length
  · rw [List.drop_eq_getElem_cons lt] at hl
    refine .inr ⟨⟨vs, vs[j], sq, List.getElem?_eq_getElem lt⟩, fun σ2 H2 => ∃ own2 Γ2, Rel F own2 Γ2 σ2 H2 ∧ Gr F own H1 own2 H2 ∧ dForFL i body E (vs.drop (j + 1)) Γ2, fun σ2 H2 ⟨own2, Γ2, R2, g2, q2⟩ => ⟨vs.length - (j + 1), by omega, rfl, lt, own2, Γ2, R2, g2, q2⟩, fun v H2 ⟨y1, y2⟩ => ?_⟩
    subst y1
    have ev := y2 vs sq
    rw [List.getElem?_eq_getElem lt] at ev
    cases ev
    have R2 := R'.set' (i := i) (v := vs[j]) (x := .r vs[j]) rfl
    refine ⟨F, _, _, _, ht, R2, hl, ?_⟩
    have g3 : Gr F own H1 (offO own' i) H2 := g.trans off_sub
    exact ⟨fun o2 Γ2 σ2 H3 R3 g4 q => ⟨o2, Γ2, R3, g3.trans g4, q⟩, fun v d o2 Γ2 σ2 H3 R3 g4 r q => k1.rt v d o2 Γ2 σ2 H3 R3 (g3.trans g4) r q, fun o2 Γ2 σ2 H3 R3 g4 q => k1.nx o2 Γ2 σ2 H3 R3 (g3.trans g4) q,
      fun o2 Γ2 σ2 H3 R3 g4 q => ⟨o2, Γ2, R3, g3.trans g4, q⟩, fun c o2 Γ2 σ2 H3 R3 g4 q => k1.ex c o2 Γ2 σ2 H3 R3 (g3.trans g4) q⟩
  · have e : j = vs.length := by omega
    subst e
    rw [List.drop_length] at hl
    exact .inl ⟨⟨vs, sq, Nat.le_refl _⟩, k1.nx own' Γ' σ' H' R' g hl⟩
theorem vs_forF {x1 : Nat} {y : Str} {tp : Pos} (hp : PassesOwn (model X.prog X.w) X.A X.env X.xe) (hc : X.calm = true) (ha : PA X es (tFs vs)) (hz : vs.length ≤ 1000) (hN : X.N.Nodup) (hi : X.N[i]? = some y) (hx : Loc X.env.scope y) (hf : X.fn y = true ∨ X.env.scope.names.lookup y = some .local) (hb : VSs X tw W sts t)
    (hs : ∀ z, foldedSetIterable (.Tuple es x1 p) X.env z = pure z := by intro _; rfl) : VS X tw W (.For (.Name y tp) (.Tuple es x1 p) sts [] pos) (dForF i vs t) :=
  PS.mono (ps_for hp hc (pi_seq (pe_tupF ha)) (pg_name hN hi hx hf) hb hs) fun _ _ _ => forF_sim hz
end
/-! ### a call of a local name that holds one of some functions -/
def dCallD (mg : Str → Option Value) (i : Nat) (fs : List (Str × DSp)) (tw : Tw) (t : DA) : DE := fun Γ Q E => ∃ p ∈ fs, Γ[i]? = some (.d (.r (.ref (adr mg p.1)))) ∧ dCall (p.2 tw) t Γ Q E
def FnsV (P : Program) (w : World) (K : PySem.W.Frag) (mg : Str → Option Value) (base : Heap) (k : Nat) (fs : List (Str × DSp)) : Prop := ∀ p ∈ fs, ∃ ps ns, FnV P w K mg base k p.1 ps ns p.2
theorem fns_nil {P : Program} {w : World} {K : PySem.W.Frag} {mg : Str → Option Value} {base : Heap} {k : Nat} : FnsV P w K mg base k [] := fun p hp => by cases hp
theorem fns_cons {P : Program} {w : World} {K : PySem.W.Frag} {mg : Str → Option Value} {base : Heap} {k : Nat} {fs : List (Str × DSp)} {x : Str} {ps : List Str} {ns : List Nat} {dsp : DSp} (g : FnV P w K mg base k x ps ns dsp) (h : FnsV P w K mg base k fs) : FnsV P w K mg base k ((x, dsp) :: fs) := fun p hp => by
  rcases List.mem_cons.mp hp with rfl | hp
  · exact ⟨ps, ns, g⟩
  · exact h p hp
section
variable {X : Cx} {tw : Tw} {E : XK} {k i : Nat} {x : Str} {p pos : Pos} {e : Expr} {es : List Expr} {t : DA} {fs : List (Str × DSp)}
theorem ve_callD {mg : Str → Option Value} (em : X.mg = mg) (G : FnsV X.prog X.w X.K mg X.base k fs) (hr : Room k X.A) (tk : Takes X (wE E)) (hN : X.N[i]? = some x) (hv : Vis X.env.scope x) (ha : VA X tw (wE E) (e :: es) t)
    (hdb : (x == ("__debug__" : Str)) = false := by decide) (hcd : (x == ("__classdict__" : Str)) = false := by decide)
    (he : starEach (e :: es) X.env = (false, eval e X.env) :: starEach es X.env := by rfl) (hpl : (backTo pos (starEach es X.env)).any (·.1) = false := by rfl) : VE X tw (wE E) (.Call (.Name x p) (e :: es) [] pos) (dCallD mg i fs tw t) := by
  subst em
  refine ⟨fun pins s σ H Q I h => ?_⟩
  obtain ⟨F, own, Γ, Qd, Ed, ht, R, ⟨q, hq, eq, h⟩, kont, kx⟩ := h
  obtain ⟨ps, ns, g⟩ := G q hq
  obtain ⟨f, fd, G1, hm, kp, b, _⟩ := g.ex
  rw [adr_of hm] at eq
  obtain ⟨_, v, hs, rv⟩ := R.sl i _ eq
  obtain rfl : v = .ref f := rv
  refine (pe_callL (i := i) (f := f) (sp := spOf q.2) (dvs := []) (E := E) G1 hr hN hv kp b .nil (passes_call tk fun _ _ _ _ h => h) ha hdb hcd he hpl).run pins s σ H Q I ⟨hs, ?_⟩
  refine liftA_mk ht R kx h fun vs H1 xs R1 e1 r1 q1 => ?_
  obtain ⟨ds, q2, r2⟩ := vals_rep r1 q1
  rw [List.append_nil]
  exact call_go ht R1 (kont.ext e1) (kx.ext e1) r2 q2
end
theorem r_forF {i : Nat} {v : V} {vs : List V} {t : DS} {E : EndsD} {Γ : List SV} (h : t { nx := dForFL i t E vs, ct := dForFL i t E vs, bk := E.nx, rt := E.rt, ex := E.ex } (Γ.set i (.d (.r v)))) : dForF i (v :: vs) t E Γ := h
theorem r_forFL {i : Nat} {v : V} {vs : List V} {t : DS} {E : EndsD} {Γ : List SV} (h : t { nx := dForFL i t E vs, ct := dForFL i t E vs, bk := E.nx, rt := E.rt, ex := E.ex } (Γ.set i (.d (.r v)))) : dForFL i t E (v :: vs) Γ := h
theorem r_forFn {i : Nat} {t : DS} {E : EndsD} {Γ : List SV} (h : E.nx Γ) : dForFL i t E [] Γ := h
theorem r_callD1 {mg : Str → Option Value} {i : Nat} {x : Str} {dsp : DSp} {fs : List (Str × DSp)} {tw : Tw} {t : DA} {Γ : List SV} {Q : AV → Prop} {E : Value → Prop} (e : Γ[i]? = some (.d (.r (.ref (adr mg x))))) (h : dCall (dsp tw) t Γ Q E) : dCallD mg i ((x, dsp) :: fs) tw t Γ Q E := ⟨_, List.mem_cons_self, e, h⟩
theorem r_callD2 {mg : Str → Option Value} {i : Nat} {x : Str} {dsp : DSp} {q : Str × DSp} {fs : List (Str × DSp)} {tw : Tw} {t : DA} {Γ : List SV} {Q : AV → Prop} {E : Value → Prop} (e : Γ[i]? = some (.d (.r (.ref (adr mg x))))) (h : dCall (dsp tw) t Γ Q E) : dCallD mg i (q :: (x, dsp) :: fs) tw t Γ Q E := ⟨_, List.mem_cons_of_mem _ List.mem_cons_self, e, h⟩
theorem adr_some {P : Program} {w : World} {K : PySem.W.Frag} {mg : Str → Option Value} {base : Heap} {k : Nat} {x : Str} {ps : List Str} {ns : List Nat} {dsp : DSp} (g : FnV P w K mg base k x ps ns dsp) : mg x = some (.ref (adr mg x)) := by
  obtain ⟨f, fd, _, hm, _⟩ := g.ex
  rw [adr_of hm]
  exact hm
end WL

set_option maxRecDepth 100000
set_option maxHeartbeats 1000000
namespace WL
open PySem PySem.Spec PyProof.Rows L2
/-! ### comprehensions, loops: their readings -/
section
variable {T : Tgt} {tt : DT} {te : DE} {Γ : List SV} {P : List PyData → Prop} {α : Type} {enc : α → PyData}
theorem lc_filter {p : α → Bool} {f : α → PyData} : ∀ {as : List α} {ys : List PyData}, (∀ a ∈ as, ∃ Γ2, dTgt T (enc a) Γ = some Γ2 ∧ (∀ Q : Bool → Prop, Q (p a) → tt Γ2 Q (fun _ => False)) ∧ (p a = true → ∀ R : PyData → Prop, R (f a) → te Γ2 (fun y => y.dat R) (fun _ => False))) →
    ys.length + as.length ≤ 100000 → P (ys ++ (as.filter p).map f) → dLcL T tt te Γ P (as.map enc) ys
  | [], ys, _, _, hP => by
    have e : ys ++ (([] : List α).filter p).map f = ys := by simp
    rw [e] at hP
    exact hP
  | a :: as, ys, h, hl, hP => by
    obtain ⟨Γ2, h1, h2, h3⟩ := h a List.mem_cons_self
    have hl' : ys.length + (as.length + 1) ≤ 100000 := hl
    rw [List.map_cons]
    unfold dLcL
    rw [h1]
    refine h2 _ ?_
    cases e : p a with
    | true =>
      rw [if_pos rfl]
      refine h3 e _ ⟨by omega, lc_filter (fun b hb => h b (List.mem_cons_of_mem _ hb)) (by rw [List.length_append, List.length_singleton]; omega) ?_⟩
      rw [List.filter_cons_of_pos e, List.map_cons] at hP
      rw [List.append_assoc]
      exact hP
    | false =>
      rw [if_neg (by decide)]
      rw [List.filter_cons_of_neg (by rw [e]; decide)] at hP
      exact lc_filter (fun b hb => h b (List.mem_cons_of_mem _ hb)) (by omega) hP
theorem lc_filter0 {p : α → Bool} {f : α → PyData} {as : List α} (h : ∀ a ∈ as, ∃ Γ2, dTgt T (enc a) Γ = some Γ2 ∧ (∀ Q : Bool → Prop, Q (p a) → tt Γ2 Q (fun _ => False)) ∧ (p a = true → ∀ R : PyData → Prop, R (f a) → te Γ2 (fun y => y.dat R) (fun _ => False)))
    (hl : as.length ≤ 100000) (hP : P ((as.filter p).map f)) : dLcL T tt te Γ P (as.map enc) [] := lc_filter h (by rw [List.length_nil]; omega) (by rw [List.nil_append]; exact hP)
theorem lc_mapE {f : α → PyData} {as : List α} (h : ∀ a ∈ as, ∃ Γ2, dTgt T (enc a) Γ = some Γ2 ∧ ∀ R : PyData → Prop, R (f a) → te Γ2 (fun y => y.dat R) (fun _ => False)) (hl : as.length ≤ 100000) (hP : P (as.map f)) : dLcL T dYes te Γ P (as.map enc) [] := by
  refine lc_filter (p := fun _ => true) (f := f) (fun a ha => ?_) (by rw [List.length_nil]; omega) ?_
  · obtain ⟨Γ2, h1, h2⟩ := h a ha
    exact ⟨Γ2, h1, fun Q q => q, fun _ => h2⟩
  · rw [List.nil_append, List.filter_eq_self.mpr fun _ _ => rfl]
    exact hP
theorem lc_map {f : PyData → PyData} {xs : List PyData} (h : ∀ a ∈ xs, ∃ Γ2, dTgt T a Γ = some Γ2 ∧ ∀ R : PyData → Prop, R (f a) → te Γ2 (fun y => y.dat R) (fun _ => False)) (hl : xs.length ≤ 100000) (hP : P (xs.map f)) : dLcL T dYes te Γ P xs [] := by
  have q := lc_mapE (enc := id) (as := xs) (P := P) (T := T) (te := te) (Γ := Γ) h hl hP
  rw [List.map_id] at q
  exact q
theorem for_inv {body : DS} {E : EndsD} (I : Nat → List SV → Prop) : ∀ {as : List α} {i : Nat} {Γ : List SV}, I i Γ →
    (∀ (j : Nat) (a : α) (Γ : List SV), as[j]? = some a → I (i + j) Γ → ∃ Γ1, dTgt T (enc a) Γ = some Γ1 ∧ ∀ N : List SV → Prop, (∀ Γ', I (i + j + 1) Γ' → N Γ') → body { nx := N, ct := N, bk := E.nx, rt := E.rt, ex := E.ex } Γ1) →
    (∀ Γ, I (i + as.length) Γ → E.nx Γ) → dForL T body E (as.map enc) Γ
  | [], i, Γ, hi, _, he => he Γ hi
  | a :: as, i, Γ, hi, h, he => by
    obtain ⟨Γ1, h1, h2⟩ := h 0 a Γ rfl hi
    rw [List.map_cons]
    unfold dForL
    rw [h1]
    refine h2 _ fun Γ' hi' => for_inv I (i := i + 1) hi' (fun j b Γ2 hb hj => ?_) fun Γ2 hj => he Γ2 ?_
    · have e : i + 1 + j = i + (j + 1) := by omega
      rw [e] at hj ⊢
      exact h (j + 1) b Γ2 (by simpa using hb) hj
    · have e : i + 1 + as.length = i + (as.length + 1) := by omega
      rw [e] at hj
      exact hj
end
/-! ### items -/
theorem atI_nat {α : Type} {xs : List α} {i : Int} {x : α} (h0 : 0 ≤ i) (h : xs[i.toNat]? = some x) : atI xs i = some x := by
  have hl : i.toNat < xs.length := by
    by_cases q : i.toNat < xs.length
    · exact q
    · rw [List.getElem?_eq_none (by omega)] at h
      cases h
  unfold atI ixN
  rw [if_pos h0, if_pos (by omega)]
  exact h
theorem at0 {α : Type} {a : α} {l : List α} : atI (a :: l) 0 = some a := atI_nat (by decide) rfl
theorem at1 {α : Type} {a b : α} {l : List α} : atI (a :: b :: l) 1 = some b := atI_nat (by decide) rfl
theorem at2 {α : Type} {a b c : α} {l : List α} : atI (a :: b :: c :: l) 2 = some c := atI_nat (by decide) rfl
theorem at3 {α : Type} {a b c d : α} {l : List α} : atI (a :: b :: c :: d :: l) 3 = some d := atI_nat (by decide) rfl
theorem boolsD_enc (bs : List Bool) : boolsD (bs.map .bool) = some bs := by
  have := boolsD_map (fun b : Bool => b) bs
  rw [List.map_id'] at this
  exact this
theorem all_id (bs : List Bool) : bs.all id = bs.all fun b => b := rfl
theorem eqv_int (i j : Int) : PyData.eqv (.int i) (.int j) = decide (i = j) := by
  unfold PyData.eqv
  by_cases h : i = j
  · rw [h]; simp
  · simp [h]
theorem ok_int (i j : Int) : okEq (.int i) (.int j) := by
  refine ⟨rfl, rfl, ?_⟩
  show PyData.depth (.int i) ≤ 60
  unfold PyData.depth
  decide
/-! ### the program's data -/
abbrev Hold := Int × Int × Int
abbrev Body := Int × Int × Int × Int
def eH (h : Hold) : PyData := .tuple [.int h.1, .int h.2.1, .int h.2.2]
def eR (r : List Hold) : PyData := .tuple (r.map eH)
def eB (b : Body) : PyData := .tuple [.int b.1, .int b.2.1, .int b.2.2.1, .int b.2.2.2]
def eS (s : List Int) : PyData := .tuple (s.map .int)
/-- within bounds -/
def btw (v : PyData) (lo hi : Int) : Bool := match v with
  | .int i => decide (lo ≤ i) && decide (i ≤ hi)
  | _ => false
def areBtw (v : PyData) (n lo hi : Int) : Bool := match v with
  | .tuple xs => decide ((xs.length : Int) = n) && xs.all fun x => btw x lo hi
  | _ => false
theorem btw_int {i lo hi : Int} : btw (.int i) lo hi = (decide (lo ≤ i) && decide (i ≤ hi)) := rfl
theorem areBtw_tup {xs : List PyData} {n lo hi : Int} : areBtw (.tuple xs) n lo hi = (decide ((xs.length : Int) = n) && xs.all fun x => btw x lo hi) := rfl
theorem plain_mem : ∀ {xs : List PyData}, PyData.plainAll xs = true → ∀ x ∈ xs, x.plain = true
  | [], _, x, hx => nomatch hx
  | y :: xs, h, x, hx => by
    rw [PyData.plainAll, Bool.and_eq_true] at h
    rcases List.mem_cons.mp hx with rfl | hx
    · exact h.1
    · exact plain_mem h.2 x hx
theorem plain_tup {xs : List PyData} (h : (PyData.tuple xs).plain = true) : PyData.plainAll xs = true := by
  rw [PyData.plain] at h
  exact h
def sp_is_between : DSp := fun _ ds Q _ => ∃ (v : PyData) (lo hi : Int), ds = [.p v, dI lo, dI hi] ∧ v.plain = true ∧ Q (dB (btw v lo hi))
def sp_are_between : DSp := fun _ ds Q _ => ∃ (v : PyData) (n lo hi : Int), ds = [.p v, dI n, dI lo, dI hi] ∧ v.plain = true ∧ n ≤ 100000 ∧ Q (dB (areBtw v n lo hi))
def holdOk (v : PyData) : Bool := areBtw v 3 0 20 && (match v with
  | .tuple [_, _, .int z] => decide (1 ≤ z) && decide (z ≤ 2)
  | _ => false)
def sp_is_hold : DSp := fun _ ds Q _ => ∃ v : PyData, ds = [.p v] ∧ v.plain = true ∧ Q (dB (holdOk v))
theorem btw_is {v : PyData} {lo hi : Int} (h : btw v lo hi = true) : ∃ i, v = .int i ∧ lo ≤ i ∧ i ≤ hi := by
  unfold btw at h
  split at h
  · rename_i i
    rw [Bool.and_eq_true, decide_eq_true_eq, decide_eq_true_eq] at h
    exact ⟨i, rfl, h.1, h.2⟩
  · cases h
theorem areBtw_is {v : PyData} {n lo hi : Int} (h : areBtw v n lo hi = true) : ∃ is : List Int, v = .tuple (is.map .int) ∧ (is.length : Int) = n ∧ ∀ i ∈ is, lo ≤ i ∧ i ≤ hi := by
  unfold areBtw at h
  split at h
  · rename_i xs
    rw [Bool.and_eq_true, decide_eq_true_eq] at h
    obtain ⟨h1, h2⟩ := h
    have all : ∀ xs : List PyData, (xs.all fun x => btw x lo hi) = true → ∃ is : List Int, xs = is.map .int ∧ ∀ i ∈ is, lo ≤ i ∧ i ≤ hi := by
      intro xs
      induction xs with
      | nil => exact fun _ => ⟨[], rfl, fun _ h => nomatch h⟩
      | cons x xs ih =>
        intro h
        rw [List.all_cons, Bool.and_eq_true] at h
        obtain ⟨i, rfl, hi⟩ := btw_is h.1
        obtain ⟨is, rfl, h3⟩ := ih h.2
        exact ⟨i :: is, rfl, fun j hj => by
          rcases List.mem_cons.mp hj with rfl | hj
          · exact hi
          · exact h3 j hj⟩
    obtain ⟨is, rfl, h3⟩ := all xs h2
    exact ⟨is, rfl, by rw [List.length_map] at h1; exact h1, h3⟩
  · cases h
theorem areBtw_ints {is : List Int} {n lo hi : Int} (h : (is.length : Int) = n) (h2 : ∀ i ∈ is, lo ≤ i ∧ i ≤ hi) : areBtw (.tuple (is.map .int)) n lo hi = true := by
  rw [areBtw_tup, List.length_map, decide_eq_true h, Bool.true_and, List.all_map, List.all_eq_true]
  intro i hm
  show btw (.int i) lo hi = true
  rw [btw_int, decide_eq_true (h2 i hm).1, decide_eq_true (h2 i hm).2]
  rfl
/-- a hold's place -/
def posD : PyData → List Int
  | .tuple (.int x :: .int y :: _) => [x, y]
  | _ => []
def rockOk (v : PyData) : Bool := match v with
  | .tuple hs => decide (1 ≤ hs.length) && decide (hs.length ≤ 7) && hs.all holdOk && decide ((ddp (hs.map posD)).length = hs.length)
  | _ => false
theorem rockOk_tup {hs : List PyData} : rockOk (.tuple hs) = (decide (1 ≤ hs.length) && decide (hs.length ≤ 7) && hs.all holdOk && decide ((ddp (hs.map posD)).length = hs.length)) := rfl
def bodyOk (v : PyData) : Bool := areBtw v 4 0 20
def HoldV (h : Hold) : Prop := (0 ≤ h.1 ∧ h.1 ≤ 20) ∧ (0 ≤ h.2.1 ∧ h.2.1 ≤ 20) ∧ 1 ≤ h.2.2 ∧ h.2.2 ≤ 2
structure RockOk (r : List Hold) : Prop where
  pos : 1 ≤ r.length
  few : r.length ≤ 7
  hold : ∀ h ∈ r, HoldV h
  nd : (r.map fun h => [h.1, h.2.1]).Nodup
def BodyOk (b : Body) : Prop := (0 ≤ b.1 ∧ b.1 ≤ 20) ∧ (0 ≤ b.2.1 ∧ b.2.1 ≤ 20) ∧ (0 ≤ b.2.2.1 ∧ b.2.2.1 ≤ 20) ∧ 0 ≤ b.2.2.2 ∧ b.2.2.2 ≤ 20
theorem holdOk_is {v : PyData} (h : holdOk v = true) : ∃ a, v = eH a ∧ HoldV a := by
  unfold holdOk at h
  rw [Bool.and_eq_true] at h
  obtain ⟨is, rfl, h1, h2⟩ := areBtw_is h.1
  match is, h1 with
  | [x, y, z], _ =>
    have h3 := h.2
    simp only [List.map_cons, List.map_nil, Bool.and_eq_true, decide_eq_true_eq] at h3
    exact ⟨(x, y, z), rfl, h2 x (by simp), h2 y (by simp), h3⟩
theorem holdOk_eH {a : Hold} (h : HoldV a) : holdOk (eH a) = true := by
  unfold holdOk
  have e : areBtw (eH a) 3 0 20 = true := areBtw_ints (is := [a.1, a.2.1, a.2.2]) rfl fun i hi => by
    simp only [List.mem_cons, List.not_mem_nil, or_false] at hi
    obtain ⟨h1, h2, h3⟩ := h
    rcases hi with rfl | rfl | rfl <;> omega
  rw [e, Bool.true_and]
  show (decide (1 ≤ a.2.2) && decide (a.2.2 ≤ 2)) = true
  rw [decide_eq_true h.2.2.1, decide_eq_true h.2.2.2]
  rfl
theorem ddp_self {α : Type} [DecidableEq α] : ∀ {xs : List α}, xs.Nodup → ddp xs = xs
  | [], _ => rfl
  | x :: xs, h => by
    obtain ⟨h1, h2⟩ := List.nodup_cons.mp h
    unfold ddp
    rw [if_neg h1, ddp_self h2]
theorem ddp_le {α : Type} [DecidableEq α] : ∀ (xs : List α), (ddp xs).length ≤ xs.length
  | [] => Nat.le_refl _
  | x :: xs => by
    have := ddp_le xs
    unfold ddp
    split <;> (simp only [List.length_cons]; omega)
theorem ddp_len {α : Type} [DecidableEq α] : ∀ {xs : List α}, (ddp xs).length = xs.length → xs.Nodup
  | [], _ => List.nodup_nil
  | x :: xs, h => by
    unfold ddp at h
    split at h
    · have := ddp_le xs
      simp only [List.length_cons] at h
      omega
    · rename_i q
      exact List.nodup_cons.mpr ⟨q, ddp_len (by simpa using h)⟩
theorem rockOk_is {v : PyData} (h : rockOk v = true) : ∃ r, v = eR r ∧ RockOk r := by
  unfold rockOk at h
  split at h
  · rename_i hs
    simp only [Bool.and_eq_true, decide_eq_true_eq] at h
    obtain ⟨⟨⟨h1, h2⟩, h3⟩, h4⟩ := h
    have all : ∀ hs : List PyData, hs.all holdOk = true → ∃ r : List Hold, hs = r.map eH ∧ ∀ a ∈ r, HoldV a := by
      intro hs
      induction hs with
      | nil => exact fun _ => ⟨[], rfl, fun _ h => nomatch h⟩
      | cons x xs ih =>
        intro h
        rw [List.all_cons, Bool.and_eq_true] at h
        obtain ⟨a, rfl, ha⟩ := holdOk_is h.1
        obtain ⟨r, rfl, hr⟩ := ih h.2
        exact ⟨a :: r, rfl, fun b hb => by
          rcases List.mem_cons.mp hb with rfl | hb
          · exact ha
          · exact hr b hb⟩
    obtain ⟨r, rfl, hr⟩ := all hs h3
    rw [List.map_map] at h4
    rw [List.length_map] at h1 h2
    exact ⟨r, rfl, h1, h2, hr, ddp_len (by rw [List.length_map] at h4; rw [List.length_map]; exact h4)⟩
  · cases h
theorem rockOk_eR {r : List Hold} (h : RockOk r) : rockOk (eR r) = true := by
  unfold eR
  rw [rockOk_tup, List.length_map, decide_eq_true h.pos, decide_eq_true h.few, List.map_map]
  have e : (ddp (r.map (posD ∘ eH))).length = r.length := by
    have q : ddp (r.map (posD ∘ eH)) = r.map (posD ∘ eH) := ddp_self h.nd
    rw [q, List.length_map]
  rw [decide_eq_true e, Bool.and_true, Bool.and_true, Bool.true_and, List.all_map, List.all_eq_true]
  exact fun a ha => holdOk_eH (h.hold a ha)
theorem bodyOk_is {v : PyData} (h : bodyOk v = true) : ∃ b, v = eB b ∧ BodyOk b := by
  obtain ⟨is, rfl, h1, h2⟩ := areBtw_is h
  match is, h1 with
  | [x, y, z, u], _ => exact ⟨(x, y, z, u), rfl, h2 x (by simp), h2 y (by simp), h2 z (by simp), h2 u (by simp)⟩
theorem bodyOk_eB {b : Body} (h : BodyOk b) : bodyOk (eB b) = true := areBtw_ints (is := [b.1, b.2.1, b.2.2.1, b.2.2.2]) rfl fun i hi => by
  simp only [List.mem_cons, List.not_mem_nil, or_false] at hi
  obtain ⟨h1, h2, h3, h4⟩ := h
  rcases hi with rfl | rfl | rfl | rfl <;> omega
def sp_is_rock : DSp := fun _ ds Q _ => ∃ v : PyData, ds = [.p v] ∧ v.plain = true ∧ Q (dB (rockOk v))
def sp_is_body : DSp := fun _ ds Q _ => ∃ v : PyData, ds = [.p v] ∧ v.plain = true ∧ Q (dB (bodyOk v))
def sp_check_rock (ec : Str → Addr) : DSp := fun _ ds Q E => ∃ v : PyData, ds = [.p v] ∧ v.plain = true ∧ if rockOk v = true then Q dN else E (.ref (ec "InvalidRock"))
def sp_check_body (ec : Str → Addr) : DSp := fun _ ds Q E => ∃ v : PyData, ds = [.p v] ∧ v.plain = true ∧ if bodyOk v = true then Q dN else E (.ref (ec "InvalidBody"))
def sp_check_both (ec : Str → Addr) : DSp := fun _ ds Q E => ∃ v u : PyData, ds = [.p v, .p u] ∧ v.plain = true ∧ u.plain = true ∧ if rockOk v = true then (if bodyOk u = true then Q dN else E (.ref (ec "InvalidBody"))) else E (.ref (ec "InvalidRock"))
end WL

set_option maxRecDepth 100000
set_option maxHeartbeats 1000000
namespace WL
open PySem PySem.Spec PyProof.Rows L2
/-! ### the rules by which a reading is walked -/
def sd : Option D → SV
  | none => .un
  | some d => .d d
theorem at_start {t : DS} {E : EndsD} {Γ Γ1 : List SV} (e : Γ1 = Γ) (h : t E Γ) : t E Γ1 := by rw [e]; exact h
def tst (Q : Bool → Prop) : AV → Prop
  | .c (.p (.bool b)) => Q b
  | _ => False
section
variable {Γ : List SV} {Q : AV → Prop} {Qb : Bool → Prop} {Ed : Value → Prop} {E : EndsD} {t u v : DS} {d d' : D} {x y : AV} {xs : List AV} {a b c : DE} {ta tb : DT} {as bs : DA} {p q : PyData} {ps qs : List PyData} {i j : Nat} {m n : Int} {k l : Bool} {g g' : G2} {gc : GC}
theorem tst_eq (R : AV → Prop) (h : ∀ z, R z → tst Qb z) : True := trivial
-- control
theorem r_seq (h : t { E with nx := u E } Γ) : dSeq t u E Γ := h
theorem r_next (h : E.nx Γ) : dNext E Γ := h
theorem r_break (h : E.bk Γ) : dBreak E Γ := h
theorem r_cont (h : E.ct Γ) : dCont E Γ := h
theorem r_drop (h : a Γ (fun _ => E.nx Γ) (E.ex Γ)) : dDrop a E Γ := h
theorem r_ret (h : a Γ (fun x => E.rt x.any) (E.ex Γ)) : dRet a E Γ := h
theorem r_retN (h : E.rt dN) : dRetN E Γ := h
theorem r_if (h : ta Γ (fun k => if k = true then u E Γ else v E Γ) (E.ex Γ)) : dIf ta u v E Γ := h
theorem r_raise {w : Value} (h : E.ex Γ w) : dRaise w E Γ := h
theorem r_t {A B : Prop} (e : k = true) (h : A) : (if k = true then A else B) := by rw [if_pos e]; exact h
theorem r_f {A B : Prop} (e : k = false) (h : B) : (if k = true then A else B) := by rw [if_neg (by rw [e]; decide)]; exact h
-- storing
theorem r_set (h : a Γ (AV.val fun d => E.nx (Γ.set i (.d d))) (E.ex Γ)) : dSet i a E Γ := h
theorem r_valc {R : D → Prop} (h : R d) : AV.val R (.c d) := h
theorem r_valf {R : D → Prop} (h : R d) : AV.val R (.f d) := h
def ownv (i : Nat) (E : EndsD) (Γ : List SV) : AV → Prop
  | .f d => E.nx (Γ.set i (.o d))
  | _ => False
theorem r_own (h : a Γ (ownv i E Γ) (E.ex Γ)) : dOwn i a E Γ := by
  have e : dOwn i a E Γ = a Γ (ownv i E Γ) (E.ex Γ) := congrArg (fun R => a Γ R (E.ex Γ)) (funext fun x => by cases x <;> rfl)
  rw [e]
  exact h
theorem r_ownv (h : E.nx (Γ.set i (.o d))) : ownv i E Γ (.f d) := h
theorem r_move (hij : i ≠ j) (e : Γ[j]? = some (.o d)) (h : E.nx ((Γ.set j .un).set i (.d d))) : dMove i j E Γ := by
  refine ⟨hij, ?_⟩
  rw [e]
  exact h
theorem r_app (e : Γ[i]? = some (.o (.p (.list ps)))) (hl : ps.length < 100000) (h : a Γ (AV.dat fun d => E.nx (Γ.set i (.o (.p (.list (ps ++ [d])))))) (E.ex Γ)) : dAppend i a E Γ := by
  unfold dAppend
  rw [e]
  exact ⟨hl, h⟩
def extv (i : Nat) (ps : List PyData) (E : EndsD) (Γ : List SV) (y : AV) : Prop := match y.any with
  | .p (.list zs) => ps.length + zs.length < 100000 ∧ E.nx (Γ.set i (.o (.p (.list (ps ++ zs)))))
  | _ => False
theorem r_ext (e : Γ[i]? = some (.o (.p (.list ps)))) (h : a Γ (extv i ps E Γ) (E.ex Γ)) : dExtend i a E Γ := by
  unfold dExtend
  rw [e]
  exact h
theorem r_extv (hy : y.any = .p (.list qs)) (hl : ps.length + qs.length < 100000) (h : E.nx (Γ.set i (.o (.p (.list (ps ++ qs)))))) : extv i ps E Γ y := by
  unfold extv
  rw [hy]
  exact ⟨hl, h⟩
theorem r_datc {R : PyData → Prop} (h : R p) : AV.dat R (.c (.p p)) := h
theorem r_datf {R : PyData → Prop} (h : R p) : AV.dat R (.f (.p p)) := h
-- loops
theorem r_for {di : DI} {T : Tgt} (h : di Γ (fun xs => dForL T t E xs Γ) (E.ex Γ)) : dFor di T t E Γ := h
theorem r_forn {T : Tgt} (h : E.nx Γ) : dForL T t E [] Γ := h
theorem r_forc {T : Tgt} {Γ1 : List SV} (e : dTgt T p Γ = some Γ1) (h : t { nx := dForL T t E ps, ct := dForL T t E ps, bk := E.nx, rt := E.rt, ex := E.ex } Γ1) : dForL T t E (p :: ps) Γ := by
  unfold dForL
  rw [e]
  exact h
theorem r_forE {T : Tgt} {Γ1 : List SV} (e0 : qs = p :: ps) (e : dTgt T p Γ = some Γ1) (h : t { nx := dForL T t E ps, ct := dForL T t E ps, bk := E.nx, rt := E.rt, ex := E.ex } Γ1) : dForL T t E qs Γ := by
  rw [e0]
  exact r_forc e h
theorem r_forN {T : Tgt} (e0 : qs = []) (h : E.nx Γ) : dForL T t E qs Γ := by
  rw [e0]
  exact h
def seqv (R : List PyData → Prop) (x : AV) : Prop := x.val fun d => match d with
  | .p (.list xs) => R xs
  | .p (.tuple xs) => R xs
  | _ => False
def seqa (R : List PyData → Prop) (x : AV) : Prop := match x.any with
  | .p (.list xs) => R xs
  | .p (.tuple xs) => R xs
  | _ => False
variable {R : List PyData → Prop}
theorem r_seqI (h : a Γ (seqv R) Ed) : dSeqI a Γ R Ed := h
theorem r_seqJ (h : a Γ (seqa R) Ed) : dSeqJ a Γ R Ed := h
theorem r_seqvcL (h : R ps) : seqv R (.c (.p (.list ps))) := h
theorem r_seqvcT (h : R ps) : seqv R (.c (.p (.tuple ps))) := h
theorem r_seqvfL (h : R ps) : seqv R (.f (.p (.list ps))) := h
theorem r_seqvE {r : PyData} (e : r = .tuple ps) (h : R ps) : seqv R (.c (.p r)) := by rw [e]; exact h
theorem r_seqaL (e : x.any = .p (.list ps)) (h : R ps) : seqa R x := by unfold seqa; rw [e]; exact h
theorem r_seqaT (e : x.any = .p (.tuple ps)) (h : R ps) : seqa R x := by unfold seqa; rw [e]; exact h
def rngv (R : List PyData → Prop) (xs : List AV) : Prop := match xs with
  | [.c (.p (.int n))] => -1000000 ≤ n ∧ n ≤ 1000000 ∧ R ((List.range n.toNat).map fun (i : Nat) => .int (0 + i))
  | _ => False
theorem r_range (h : as Γ (rngv R) Ed) : dRange as Γ R Ed := h
theorem r_rngv (h0 : -1000000 ≤ n) (h1 : n ≤ 1000000) (h : R ((List.range n.toNat).map fun (i : Nat) => .int (i : Int))) : rngv R [.c (.p (.int n))] := by
  refine ⟨h0, h1, ?_⟩
  have e : (fun (i : Nat) => PyData.int (0 + (i : Int))) = fun (i : Nat) => .int (i : Int) := by funext i; rw [Int.zero_add]
  rw [e]
  exact h
def zipv (R : List PyData → Prop) (xs : List AV) : Prop := match xs with
  | [x, y] => x.dat fun d => y.dat fun d' => (match d, d' with
    | .list xs, .list ys => R (zipD xs ys)
    | .tuple xs, .tuple ys => R (zipD xs ys)
    | _, _ => False)
  | _ => False
theorem r_zip (h : as Γ (zipv R) Ed) : dZip as Γ R Ed := h
def unpv (T : Tgt) (E : EndsD) (Γ : List SV) : AV → Prop := AV.val fun d => match d with
  | .p y => (match dTgt T y Γ with
    | some Γ' => E.nx Γ'
    | none => False)
  | _ => False
theorem r_unp {T : Tgt} (h : a Γ (unpv T E Γ) (E.ex Γ)) : dUnp T a E Γ := h
theorem r_unpv {T : Tgt} {Γ1 : List SV} (e : dTgt T p Γ = some Γ1) (h : E.nx Γ1) : unpv T E Γ (.c (.p p)) := by
  show (match dTgt T p Γ with
      | some Γ' => E.nx Γ'
      | none => False)
  rw [e]
  exact h
theorem r_par {ls : List (Bool × Nat × DE)} (h : dParGo ls Γ Γ E) : dPar ls E Γ := h
theorem r_parn {Γ0 : List SV} (h : E.nx Γ) : dParGo [] Γ0 Γ E := h
theorem r_parc {Γ0 : List SV} {ls : List (Bool × Nat × DE)} (h : a Γ0 (fun x => stD k i x Γ fun Γ' => dParGo ls Γ0 Γ' E) (E.ex Γ0)) : dParGo ((k, i, a) :: ls) Γ0 Γ E := h
variable {G : List SV → Prop}
theorem r_stc (h : G (Γ.set i (.d d))) : stD false i (.c d) Γ G := h
theorem r_stf (h : G (Γ.set i (.d d))) : stD false i (.f d) Γ G := h
theorem r_sto (h : G (Γ.set i (.o d))) : stD true i (.f d) Γ G := h
-- values
theorem r_var (e : Γ[i]? = some (.d d)) (h : Q (.c d)) : dVar i Γ Q Ed := by unfold dVar; rw [e]; exact h
theorem r_varo (e : Γ[i]? = some (.o d)) (h : Q (.b d)) : dVar i Γ Q Ed := by unfold dVar; rw [e]; exact h
theorem r_con (h : Q (.c d)) : dC d Γ Q Ed := h
theorem r_op (h : a Γ (fun x => b Γ (fun y => g x y Q) Ed) Ed) : dOp g a b Γ Q Ed := h
theorem r_test (h : a Γ (tst Qb) Ed) : dTest a Γ Qb Ed := by
  have e : dTest a Γ Qb Ed = a Γ (tst Qb) Ed := congrArg (fun R => a Γ R Ed) (funext fun x => by cases x with | c z => (cases z with | p z => (cases z <;> rfl) | _ => rfl) | _ => rfl)
  rw [e]
  exact h
theorem r_tst (h : Qb k) : tst Qb (.c (dB k)) := h
theorem r_and (h : ta Γ (fun k => if k = true then tb Γ Qb Ed else Qb false) Ed) : dAnd ta tb Γ Qb Ed := h
theorem r_or (h : ta Γ (fun k => if k = true then Qb true else tb Γ Qb Ed) Ed) : dOr ta tb Γ Qb Ed := h
theorem r_not (h : ta Γ (fun k => Qb (!k)) Ed) : dNot ta Γ Qb Ed := h
theorem r_yes (h : Qb true) : dYes Γ Qb Ed := h
theorem r_andV (h : a Γ (tst fun k => if k = true then b Γ Q Ed else Q (.c (dB false))) Ed) : dAndV a b Γ Q Ed := by
  have e : dAndV a b Γ Q Ed = a Γ (tst fun k => if k = true then b Γ Q Ed else Q (.c (dB false))) Ed := congrArg (fun R => a Γ R Ed) (funext fun x => by cases x with | c z => (cases z with | p z => (cases z <;> rfl) | _ => rfl) | _ => rfl)
  rw [e]
  exact h
theorem r_orV (h : a Γ (tst fun k => if k = true then Q (.c (dB true)) else b Γ Q Ed) Ed) : dOrV a b Γ Q Ed := by
  have e : dOrV a b Γ Q Ed = a Γ (tst fun k => if k = true then Q (.c (dB true)) else b Γ Q Ed) Ed := congrArg (fun R => a Γ R Ed) (funext fun x => by cases x with | c z => (cases z with | p z => (cases z <;> rfl) | _ => rfl) | _ => rfl)
  rw [e]
  exact h
theorem r_notV (h : a Γ (tst fun k => Q (.c (dB (!k)))) Ed) : dNotV a Γ Q Ed := by
  have e : dNotV a Γ Q Ed = a Γ (tst fun k => Q (.c (dB (!k)))) Ed := congrArg (fun R => a Γ R Ed) (funext fun x => by cases x with | c z => (cases z with | p z => (cases z <;> rfl) | _ => rfl) | _ => rfl)
  rw [e]
  exact h
theorem r_ifE (h : ta Γ (fun k => if k = true then a Γ Q Ed else b Γ Q Ed) Ed) : dIfE ta a b Γ Q Ed := h
theorem r_chain (h : a Γ (fun x => b Γ (fun y => g x y (tst fun k => if k = true then c Γ (fun z => g' y z Q) Ed else Q (.c (dB false)))) Ed) Ed) : dChain g g' a b c Γ Q Ed := by
  have e : dChain g g' a b c Γ Q Ed = a Γ (fun x => b Γ (fun y => g x y (tst fun k => if k = true then c Γ (fun z => g' y z Q) Ed else Q (.c (dB false)))) Ed) Ed :=
    congrArg (fun R => a Γ R Ed) (funext fun x => congrArg (fun R => b Γ R Ed) (funext fun y => congrArg (fun R => g x y R) (funext fun z => by
      cases z with
      | c z => (cases z with
        | p z => (cases z with
          | bool k => cases k <;> rfl
          | _ => rfl)
        | _ => rfl)
      | _ => rfl)))
  rw [e]
  exact h
theorem r_nil {R : List AV → Prop} (h : R []) : dNil Γ R Ed := h
theorem r_cons {R : List AV → Prop} (h : a Γ (fun x => as Γ (fun xs => R (x :: xs)) Ed) Ed) : dCons a as Γ R Ed := h
theorem r_tup (h : as Γ (fun xs => xs.length ≤ 1000 ∧ dats (fun ds => Q (.c (.p (.tuple ds)))) xs) Ed) : dTup as Γ Q Ed := h
theorem r_lst (h : as Γ (fun xs => xs.length ≤ 1000 ∧ dats (fun ds => Q (.f (.p (.list ds)))) xs) Ed) : dLst as Γ Q Ed := h
theorem r_few {A : Prop} {R : List AV} (h : A) (e : R.length ≤ 1000) : R.length ≤ 1000 ∧ A := ⟨e, h⟩
theorem r_datsn (h : R []) : dats R [] := h
theorem r_datsc (h : dats (fun ds => R (p :: ds)) xs) : dats R (.c (.p p) :: xs) := h
theorem r_datsf (h : dats (fun ds => R (p :: ds)) xs) : dats R (.f (.p p) :: xs) := h
theorem r_call {sp : List D → (D → Prop) → (Value → Prop) → Prop} (h : as Γ (vals fun ds => sp ds (fun d => Q (.c d)) Ed) Ed) : dCall sp as Γ Q Ed := h
theorem r_callK {n m : Nat} {sp : List D → (D → Prop) → (Value → Prop) → Prop} (h : as Γ (fun xs => bs Γ (fun ys => xs.length = n ∧ ys.length = m ∧ vals (fun ds => sp ds (fun d => Q (.c d)) Ed) (xs ++ ys)) Ed) Ed) : dCallK n m sp as bs Γ Q Ed := h
theorem r_kw {n m : Nat} {A : Prop} {xs ys : List AV} (e1 : xs.length = n) (e2 : ys.length = m) (h : A) : xs.length = n ∧ ys.length = m ∧ A := ⟨e1, e2, h⟩
variable {V : List D → Prop}
theorem r_valsn (h : V []) : vals V [] := h
theorem r_valsc (h : vals (fun ds => V (d :: ds)) xs) : vals V (.c d :: xs) := h
theorem r_valsf (h : vals (fun ds => V (d :: ds)) xs) : vals V (.f d :: xs) := h
theorem r_valsa0 {ys : List AV} (h : vals V ys) : vals V ([] ++ ys) := h
theorem r_valsa1 {ys : List AV} (h : vals V (x :: (xs ++ ys))) : vals V ((x :: xs) ++ ys) := h
-- operators
theorem r_gI {f : Int → Int → D} (h : Q (.c (f m n))) : gI f (.c (dI m)) (.c (dI n)) Q := h
theorem r_gIc {C : Int → Int → Prop} {f : Int → Int → D} (e : C m n) (h : Q (.c (f m n))) : gIc C f (.c (dI m)) (.c (dI n)) Q := ⟨e, h⟩
theorem r_addI (h : Q (.c (dI (m + n)))) : gAddP (.c (dI m)) (.c (dI n)) Q := h
theorem r_addT (e1 : x.any = .p (.tuple ps)) (e2 : y.any = .p (.tuple qs)) (hl : ps.length + qs.length ≤ 1000) (h : Q (.c (.p (.tuple (ps ++ qs))))) : gAddP x y Q := by unfold gAddP; rw [e1, e2]; exact ⟨hl, h⟩
theorem r_addL (e1 : x.any = .p (.list ps)) (e2 : y.any = .p (.list qs)) (hl : ps.length + qs.length ≤ 100000) (h : Q (.f (.p (.list (ps ++ qs))))) : gAddP x y Q := by unfold gAddP; rw [e1, e2]; exact ⟨hl, h⟩
theorem r_mulI (e : CMul m n) (h : Q (.c (dI (m * n)))) : gMulP (.c (dI m)) (.c (dI n)) Q := ⟨e, h⟩
theorem r_mulT (e1 : x.any = .p (.tuple ps)) (hn : ps ≠ []) (h2 : 2 ≤ n) (h3 : n ≤ 1000) (hl : ps.length ≤ 1000) (h : Q (.c (.p (.tuple (List.replicate n.toNat ps).flatten)))) : gMulP x (.c (dI n)) Q := by unfold gMulP; rw [e1]; exact ⟨hn, h2, h3, hl, h⟩
theorem r_ixT (e1 : x.any = .p (.tuple ps)) (e : atI ps n = some p) (h : Q (.c (.p p))) : gIx x (.c (dI n)) Q := by unfold gIx; rw [e1]; simp only [e]; exact h
theorem r_ixL (e1 : x.any = .p (.list ps)) (e : atI ps n = some p) (h : Q (.c (.p p))) : gIx x (.c (dI n)) Q := by unfold gIx; rw [e1]; simp only [e]; exact h
theorem r_eqI (h : Q (.c (dB (decide (m = n))))) : gEq (.c (dI m)) (.c (dI n)) Q := by
  refine ⟨ok_int m n, ?_⟩
  rw [eqv_int]
  exact h
theorem r_neI (h : Q (.c (dB (!decide (m = n))))) : gNe (.c (dI m)) (.c (dI n)) Q := by
  refine ⟨ok_int m n, ?_⟩
  rw [eqv_int]
  exact h
theorem r_eq (e1 : x.any = .p p) (e2 : y.any = .p q) (ok : okEq p q) (h : Q (.c (dB (PyData.eqv p q)))) : gEq x y Q := by unfold gEq; rw [e1, e2]; exact ⟨ok, h⟩
theorem r_ne (e1 : x.any = .p p) (e2 : y.any = .p q) (ok : okEq p q) (h : Q (.c (dB (!PyData.eqv p q)))) : gNe x y Q := by unfold gNe; rw [e1, e2]; exact ⟨ok, h⟩
theorem r_is (e : isN x.any = some k) (h : Q (.c (dB k))) : gIs x (.c dN) Q := by
  show (match isN x.any with | some b => Q (.c (dB b)) | none => False)
  rw [e]
  exact h
theorem r_isNot (e : isN x.any = some k) (h : Q (.c (dB (!k)))) : gIsNot x (.c dN) Q := by
  show (match isN x.any with | some b => Q (.c (dB (!b))) | none => False)
  rw [e]
  exact h
theorem r_inL {ng : Bool} (e1 : x.any = .p p) (e2 : y.any = .p (.list ps)) (h1 : p.plain = true) (h2 : PyData.plainAll ps = true) (h3 : p.depth ≤ 60) (h : Q (.c (dB (if ng then !(ps.any fun z => PyData.eqv z p) else ps.any fun z => PyData.eqv z p)))) : gInP ng x y Q := by unfold gInP; rw [e1, e2]; exact ⟨h1, h2, h3, h⟩
theorem r_inT {ng : Bool} (e1 : x.any = .p p) (e2 : y.any = .p (.tuple ps)) (h1 : p.plain = true) (h2 : PyData.plainAll ps = true) (h3 : p.depth ≤ 60) (h : Q (.c (dB (if ng then !(ps.any fun z => PyData.eqv z p) else ps.any fun z => PyData.eqv z p)))) : gInP ng x y Q := by unfold gInP; rw [e1, e2]; exact ⟨h1, h2, h3, h⟩
-- built-ins
theorem r_cb (h : as Γ (fun xs => gc xs Q) Ed) : dCB gc as Γ Q Ed := h
theorem r_lenT (e : x.any = .p (.tuple ps)) (h : Q (.c (dI ps.length))) : gLen [x] Q := by unfold gLen; simp only [e]; exact h
theorem r_lenL (e : x.any = .p (.list ps)) (h : Q (.c (dI ps.length))) : gLen [x] Q := by unfold gLen; simp only [e]; exact h
theorem r_isi {T : String} (e : isTy T x.any = some k) (h : Q (.c (dB k))) : gIsi T [x, .c (.r (.ty T))] Q := by unfold gIsi; simp only [e]; exact ⟨trivial, h⟩
theorem r_all {ks : List Bool} (e : x.any = .p (.list ps)) (e2 : boolsD ps = some ks) (h : Q (.c (dB (ks.all id)))) : gAll [x] Q := by unfold gAll; simp only [e, e2]; exact h
theorem r_any {ks : List Bool} (e : x.any = .p (.list ps)) (e2 : boolsD ps = some ks) (h : Q (.c (dB (ks.any id)))) : gAny [x] Q := by unfold gAny; simp only [e, e2]; exact h
theorem r_abs (h : Q (.c (dI (if m < 0 then -m else m)))) : gAbs [.c (dI m)] Q := h
theorem r_max2 (h : Q (.c (dI (if n > m then n else m)))) : gMax2 [.c (dI m), .c (dI n)] Q := h
theorem r_min2 (h : Q (.c (dI (if n < m then n else m)))) : gMin2 [.c (dI m), .c (dI n)] Q := h
theorem r_listL (e : x.any = .p (.list ps)) (h : Q (.f (.p (.list ps)))) : gList [x] Q := by unfold gList; simp only [e]; exact h
theorem r_listT (e : x.any = .p (.tuple ps)) (h : Q (.f (.p (.list ps)))) : gList [x] Q := by unfold gList; simp only [e]; exact h
theorem r_tupL (e : x.any = .p (.list ps)) (h : Q (.c (.p (.tuple ps)))) : gTuple [x] Q := by unfold gTuple; simp only [e]; exact h
theorem r_tupT (e : x.any = .p (.tuple ps)) (h : Q (.c (.p (.tuple ps)))) : gTuple [x] Q := by unfold gTuple; simp only [e]; exact h
def lrgv (Q : AV → Prop) : AV → Prop
  | .c (.p (.int n)) => -1000000 ≤ n ∧ n ≤ 1000000 ∧ Q (.f (.p (.list (rgD n))))
  | _ => False
theorem r_listRg (h : a Γ (lrgv Q) Ed) : dListRg a Γ Q Ed := by
  have e : dListRg a Γ Q Ed = a Γ (lrgv Q) Ed := congrArg (fun R => a Γ R Ed) (funext fun x => by cases x with | c z => (cases z with | p z => (cases z <;> rfl) | _ => rfl) | _ => rfl)
  rw [e]
  exact h
theorem r_lrgv (h0 : -1000000 ≤ n) (h1 : n ≤ 1000000) (h : Q (.f (.p (.list (rgD n))))) : lrgv Q (.c (dI n)) := ⟨h0, h1, h⟩
def cntv (b : DE) (Γ : List SV) (Q : AV → Prop) (Ed : Value → Prop) (x : AV) : Prop := match x.any with
  | .p (.tuple xs) => b Γ (fun y => match y.any with
    | .p d => PyData.plainAll xs = true ∧ d.plain = true ∧ min (PyData.depthAll xs) d.depth ≤ 60 ∧ Q (.c (dI ((xs.countP fun z => PyData.eqv z d : Nat) : Int)))
    | _ => False) Ed
  | _ => False
def cnt2 (ps : List PyData) (Q : AV → Prop) (y : AV) : Prop := match y.any with
  | .p d => PyData.plainAll ps = true ∧ d.plain = true ∧ min (PyData.depthAll ps) d.depth ≤ 60 ∧ Q (.c (dI ((ps.countP fun z => PyData.eqv z d : Nat) : Int)))
  | _ => False
theorem r_count (h : a Γ (cntv b Γ Q Ed) Ed) : dCount a b Γ Q Ed := h
theorem r_cntv (e : x.any = .p (.tuple ps)) (h : b Γ (cnt2 ps Q) Ed) : cntv b Γ Q Ed x := by unfold cntv; rw [e]; exact h
theorem r_cnt2 (e : y.any = .p p) (h1 : PyData.plainAll ps = true) (h2 : p.plain = true) (h3 : min (PyData.depthAll ps) p.depth ≤ 60) (h : Q (.c (dI ((ps.countP fun z => PyData.eqv z p : Nat) : Int)))) : cnt2 ps Q y := by unfold cnt2; rw [e]; exact ⟨h1, h2, h3, h⟩
def lsetv (Q : AV → Prop) (x : AV) : Prop := match x.any with
  | .p (.list ds) => (match keysD ds with
    | some ks => ks.length < 64 ∧ Q (.c (dI ((ddp ks).length : Nat)))
    | none => False)
  | _ => False
theorem r_lset (h : a Γ (lsetv Q) Ed) : dLenSet a Γ Q Ed := h
theorem r_lsetv {ks : List (List Int)} (e : x.any = .p (.list ps)) (e2 : keysD ps = some ks) (hl : ks.length < 64) (h : Q (.c (dI ((ddp ks).length : Nat)))) : lsetv Q x := by unfold lsetv; rw [e]; simp only [e2]; exact ⟨hl, h⟩
theorem r_neg (h : a Γ (fun x => match x with
  | .c (.p (.int i)) => Q (.c (dI (-i)))
  | _ => False) Ed) : dNeg a Γ Q Ed := h
theorem r_neg1 (h : Q (.c (dI (-n)))) : dNeg (dC (dI n)) Γ Q Ed := h
-- slices
def slv (tl th : DO) (Γ : List SV) (Q : AV → Prop) (Ed : Value → Prop) (x : AV) : Prop := tl Γ (fun lo => th Γ (fun hi => match x.any with
  | .p (.list xs) => Q (.f (.p (.list (cutD xs lo hi))))
  | .p (.tuple xs) => Q (.c (.p (.tuple (cutD xs lo hi))))
  | _ => False) Ed) Ed
def slw (x : AV) (Q : AV → Prop) (lo hi : Option Int) : Prop := match x.any with
  | .p (.list xs) => Q (.f (.p (.list (cutD xs lo hi))))
  | .p (.tuple xs) => Q (.c (.p (.tuple (cutD xs lo hi))))
  | _ => False
theorem r_sl {tl th : DO} (h : a Γ (fun x => tl Γ (fun lo => th Γ (fun hi => slw x Q lo hi) Ed) Ed) Ed) : dSl a tl th Γ Q Ed := h
theorem r_no {R : Option Int → Prop} (h : R none) : dNo Γ R Ed := h
def somv (R : Option Int → Prop) : AV → Prop
  | .c (.p (.int i)) => R (some i)
  | _ => False
theorem r_some {R : Option Int → Prop} (h : a Γ (somv R) Ed) : dSome a Γ R Ed := by
  have e : dSome a Γ R Ed = a Γ (somv R) Ed := congrArg (fun R => a Γ R Ed) (funext fun x => by cases x with | c z => (cases z with | p z => (cases z <;> rfl) | _ => rfl) | _ => rfl)
  rw [e]
  exact h
theorem r_somv {R : Option Int → Prop} (h : R (some n)) : somv R (.c (dI n)) := h
theorem r_slwL {lo hi : Option Int} (e : x.any = .p (.list ps)) (h : Q (.f (.p (.list (cutD ps lo hi))))) : slw x Q lo hi := by unfold slw; rw [e]; exact h
theorem r_slwT {lo hi : Option Int} (e : x.any = .p (.tuple ps)) (h : Q (.c (.p (.tuple (cutD ps lo hi))))) : slw x Q lo hi := by unfold slw; rw [e]; exact h
-- comprehensions
theorem r_lc {di : DI} {T : Tgt} {vs : List Nat} (e : noOwn Γ vs = true) (h : di Γ (fun xs => dLcL T tb a (wipeD Γ vs) (fun ys => Q (.f (.p (.list ys)))) xs []) Ed) : dLc di T tb a vs Γ Q Ed := ⟨e, h⟩
end
end WL

set_option maxRecDepth 100000
set_option maxHeartbeats 1000000
namespace WL
open PySem PySem.Spec PyProof.Rows L2
/-! ### stances -/
def hd (r : List Hold) (i : Int) : Hold := r.getD i.toNat (0, 0, 0)
def InR (r : List Hold) (i : Int) : Prop := 0 ≤ i ∧ i < r.length
theorem at_eR {r : List Hold} {i : Int} (h : InR r i) : atI (r.map eH) i = some (eH (hd r i)) := by
  obtain ⟨h0, h1⟩ := h
  refine atI_nat h0 ?_
  unfold hd
  rw [List.getElem?_map, List.getD_eq_getElem?_getD, List.getElem?_eq_getElem (by omega)]
  rfl
theorem hd_mem {r : List Hold} {i : Int} (h : InR r i) : hd r i ∈ r := by
  obtain ⟨h0, h1⟩ := h
  unfold hd
  rw [List.getD_eq_getElem?_getD, List.getElem?_eq_getElem (show i.toNat < r.length by omega)]
  exact List.getElem_mem _
def absI (i : Int) : Int := if i < 0 then -i else i
def maxI (i j : Int) : Int := if j > i then j else i
def apI (r : List Hold) (i j : Int) : Int := maxI (absI ((hd r i).1 - (hd r j).1)) (absI ((hd r i).2.1 - (hd r j).2.1))
def roomOk (r : List Hold) (s : List Int) : Bool := s.all fun h => decide (((s.countP fun z => decide (z = h) : Nat) : Int) ≤ (hd r h).2.2)
def sorted2 (r : List Hold) (i j c : Int) : Bool := decide ((hd r i).1 ≤ (hd r j).1 + c)
def farB (r : List Hold) (t i j : Int) : Bool := decide (t < apI r i j) || decide ((hd r i).2.1 < (hd r j).2.1)
def kept (r : List Hold) (b : Body) (i j k l : Int) : Bool :=
  !(!roomOk r [i, j, k, l] || (decide (b.1 < apI r i j) || decide (b.2.1 < apI r k l))) && (!farB r b.2.2.1 i k && (!farB r b.2.2.1 i l && (!farB r b.2.2.1 j k && (!farB r b.2.2.1 j l && (sorted2 r i j b.2.2.2 && sorted2 r k l b.2.2.2)))))
def goodOne (r : List Hold) (b : Body) (v : PyData) : Bool := areBtw v 4 0 (r.length - 1) && (match v with
  | .tuple [.int i, .int j, .int k, .int l] => kept r b i j k l
  | _ => false)
def keptL (r : List Hold) (b : Body) : List Int → Bool
  | [i, j, k, l] => kept r b i j k l
  | _ => false
def rowsN (n : Nat) : Nat → List (List Int)
  | 0 => [[]]
  | k + 1 => (rowsN n k).flatMap fun row => (List.range n).map fun (i : Nat) => row ++ [(i : Int)]
def goodS (r : List Hold) (b : Body) : List (List Int) := (rowsN r.length 4).filter (keptL r b)
theorem countP_ints (s : List Int) (h : Int) : (s.map PyData.int).countP (fun z => PyData.eqv z (.int h)) = s.countP fun z => decide (z = h) := by
  rw [List.countP_map]
  have e : ((fun z => PyData.eqv z (.int h)) ∘ PyData.int) = fun z => decide (z = h) := funext fun z => eqv_int z h
  rw [e]
theorem plain_ints : ∀ s : List Int, PyData.plainAll (s.map PyData.int) = true
  | [] => rfl
  | i :: s => by
    rw [List.map_cons, PyData.plainAll, plain_ints s]
    rfl
theorem depth_ints (s : List Int) (h : Int) : min (PyData.depthAll (s.map PyData.int)) (PyData.int h).depth ≤ 60 := by
  have e : (PyData.int h).depth ≤ 60 := (ok_int h h).2.2
  omega
def sp_apart_by : DSp := fun _ ds Q _ => ∃ (r : List Hold) (i j : Int), ds = [.p (eR r), dI i, dI j] ∧ InR r i ∧ InR r j ∧ Q (dI (apI r i j))
def sp_have_room : DSp := fun _ ds Q _ => ∃ (r : List Hold) (s : List Int), ds = [.p (eR r), .p (eS s)] ∧ s.length ≤ 1000 ∧ (∀ i ∈ s, InR r i) ∧ Q (dB (roomOk r s))
def sp_are_sorted : DSp := fun _ ds Q _ => ∃ (r : List Hold) (i j c : Int), ds = [.p (eR r), dI i, dI j, dI c] ∧ InR r i ∧ InR r j ∧ Q (dB (sorted2 r i j c))
def sp_is_kept : DSp := fun _ ds Q _ => ∃ (r : List Hold) (b : Body) (i j k l : Int), ds = [.p (eR r), .p (eB b), .p (eS [i, j, k, l])] ∧ InR r i ∧ InR r j ∧ InR r k ∧ InR r l ∧ Q (dB (kept r b i j k l))
def sp_is_good_one : DSp := fun _ ds Q _ => ∃ (r : List Hold) (b : Body) (v : PyData), ds = [.p (eR r), .p (eB b), .p v] ∧ v.plain = true ∧ Q (dB (goodOne r b v))
def sp_is_good (ec : Str → Addr) : DSp := fun _ ds Q E => ∃ u v x : PyData, ds = [.p u, .p v, .p x] ∧ u.plain = true ∧ v.plain = true ∧ x.plain = true ∧
  if rockOk u = true then (if bodyOk v = true then ∀ r b, u = eR r → v = eB b → RockOk r → BodyOk b → Q (dB (goodOne r b x)) else E (.ref (ec "InvalidBody"))) else E (.ref (ec "InvalidRock"))
def sp_good_stances : DSp := fun _ ds Q _ => ∃ (r : List Hold) (b : Body), ds = [.p (eR r), .p (eB b)] ∧ r.length ≤ 7 ∧ Q (.p (.list ((goodS r b).map eS)))
def sp_stances (ec : Str → Addr) : DSp := fun _ ds Q E => ∃ u v : PyData, ds = [.p u, .p v] ∧ u.plain = true ∧ v.plain = true ∧
  if rockOk u = true then (if bodyOk v = true then ∀ r b, u = eR r → v = eB b → RockOk r → BodyOk b → Q (.p (.tuple ((goodS r b).map eS))) else E (.ref (ec "InvalidBody"))) else E (.ref (ec "InvalidRock"))
/-! ### the rows -/
theorem rowsN_len {n : Nat} : ∀ {k : Nat}, ∀ s ∈ rowsN n k, s.length = k
  | 0, s, h => by
    have : s = [] := by simpa [rowsN] using h
    rw [this]
    rfl
  | k + 1, s, h => by
    unfold rowsN at h
    obtain ⟨row, h1, h2⟩ := List.mem_flatMap.mp h
    obtain ⟨i, _, rfl⟩ := List.mem_map.mp h2
    rw [List.length_append, rowsN_len row h1]
    rfl
theorem rowsN_rng {n : Nat} : ∀ {k : Nat}, ∀ s ∈ rowsN n k, ∀ i ∈ s, 0 ≤ i ∧ i < (n : Int)
  | 0, s, h, i, hi => by
    have : s = [] := by simpa [rowsN] using h
    rw [this] at hi
    cases hi
  | k + 1, s, h, i, hi => by
    unfold rowsN at h
    obtain ⟨row, h1, h2⟩ := List.mem_flatMap.mp h
    obtain ⟨j, hj, rfl⟩ := List.mem_map.mp h2
    rcases List.mem_append.mp hi with hi | hi
    · exact rowsN_rng row h1 i hi
    · have e : i = j := by simpa using hi
      have := List.mem_range.mp hj
      omega
theorem rowsN_count (n : Nat) : ∀ k : Nat, (rowsN n k).length = n ^ k
  | 0 => rfl
  | k + 1 => by
    unfold rowsN
    have e : ∀ l : List (List Int), (l.flatMap fun row => (List.range n).map fun (i : Nat) => row ++ [(i : Int)]).length = l.length * n := by
      intro l
      induction l with
      | nil => simp
      | cons a l ih => rw [List.flatMap_cons, List.length_append, ih, List.length_map, List.length_range, List.length_cons, Nat.succ_mul, Nat.add_comm]
    rw [e, rowsN_count n k, Nat.pow_succ]
theorem rows4 {n : Nat} {s : List Int} (h : s ∈ rowsN n 4) : ∃ i j k l : Int, s = [i, j, k, l] := by
  have := rowsN_len s h
  match s, this with
  | [i, j, k, l], _ => exact ⟨i, j, k, l, rfl⟩
def extR (n : Nat) (row : List Int) : List (List Int) := (List.range n).map fun (i : Nat) => row ++ [(i : Int)]
theorem flat_len (n : Nat) : ∀ l : List (List Int), (l.flatMap (extR n)).length = l.length * n
  | [] => by simp
  | a :: l => by
    rw [List.flatMap_cons, List.length_append, flat_len n l, List.length_cons, Nat.succ_mul, Nat.add_comm]
    unfold extR
    rw [List.length_map, List.length_range]
theorem rowsN_succ (n k : Nat) : rowsN n (k + 1) = (rowsN n k).flatMap (extR n) := rfl
theorem pow7 {n k : Nat} (h : n ≤ 7) (hk : k ≤ 3) : n ^ k ≤ 343 := Nat.le_trans (Nat.pow_le_pow_left h k) (Nat.le_trans (Nat.pow_le_pow_right (by decide) hk) (by decide))
theorem take_flat {n j : Nat} {l : List (List Int)} {a : List Int} (h : l[j]? = some a) : ((l.take (j + 1)).flatMap (extR n)).map eS = ((l.take j).flatMap (extR n)).map eS ++ (extR n a).map eS := by
  rw [List.take_succ, h, List.flatMap_append, List.map_append]
  simp
theorem eS_snoc {a : List Int} {k : Int} : PyData.tuple (a.map PyData.int ++ [.int k]) = eS (a ++ [k]) := by
  unfold eS
  rw [List.map_append]
  rfl
theorem range4 : ((List.range (Int.toNat 4)).map fun (i : Nat) => PyData.int (i : Int)) = (List.range 4).map fun (i : Nat) => PyData.int (i : Int) := rfl
end WL

set_option maxRecDepth 100000
set_option maxHeartbeats 1000000
namespace WL
open PySem PySem.Spec PyProof.Rows L2
/-! ### the rules, their side goals by themselves -/
section
variable {Γ : List SV} {Q : AV → Prop} {Qb : Bool → Prop} {Ed : Value → Prop} {E : EndsD} {t u v : DS} {d d' : D} {x y : AV} {xs : List AV} {a b c : DE} {ta tb : DT} {as bs : DA} {p q : PyData} {ps qs : List PyData} {i j : Nat} {m n : Int} {k l : Bool} {g g' : G2} {gc : GC}
variable {R : List PyData → Prop} {V : List D → Prop}
theorem q_var  (h : Q (.c d)) (e : Γ[i]? = some (.d d) := by with_unfolding_all rfl) : dVar i Γ Q Ed := r_var e h
theorem q_ixT  (h : Q (.c (.p p))) (e1 : x.any = .p (.tuple ps) := by with_unfolding_all rfl) (e : atI ps n = some p := by with_unfolding_all first | exact at0 | exact at1 | exact at2 | exact at3 | exact at_eR (by assumption)) : gIx x (.c (dI n)) Q := r_ixT e1 e h
theorem q_t {A B : Prop} (h : A) (e : k = true := by with_unfolding_all rfl) : (if k = true then A else B) := r_t e h
theorem q_f {A B : Prop} (h : B) (e : k = false := by with_unfolding_all rfl) : (if k = true then A else B) := r_f e h
theorem q_move  (h : E.nx ((Γ.set j .un).set i (.d d))) (hij : i ≠ j := by decide) (e : Γ[j]? = some (.o d) := by with_unfolding_all rfl) : dMove i j E Γ := r_move hij e h
theorem q_forc {T : Tgt} {Γ1 : List SV} (h : t { nx := dForL T t E ps, ct := dForL T t E ps, bk := E.nx, rt := E.rt, ex := E.ex } Γ1) (e : dTgt T p Γ = some Γ1 := by with_unfolding_all rfl) : dForL T t E (p :: ps) Γ := r_forc e h
theorem q_forE {T : Tgt} {Γ1 : List SV} (h : t { nx := dForL T t E ps, ct := dForL T t E ps, bk := E.nx, rt := E.rt, ex := E.ex } Γ1) (e0 : qs = p :: ps := by with_unfolding_all rfl) (e : dTgt T p Γ = some Γ1 := by with_unfolding_all rfl) : dForL T t E qs Γ := r_forE e0 e h
theorem q_forN {T : Tgt} (h : E.nx Γ) (e0 : qs = [] := by with_unfolding_all rfl) : dForL T t E qs Γ := r_forN e0 h
theorem q_seqvE {r : PyData} (h : R ps) (e : r = .tuple ps := by with_unfolding_all rfl) : seqv R (.c (.p r)) := r_seqvE e h
theorem q_seqaL  (h : R ps) (e : x.any = .p (.list ps) := by with_unfolding_all rfl) : seqa R x := r_seqaL e h
theorem q_seqaT  (h : R ps) (e : x.any = .p (.tuple ps) := by with_unfolding_all rfl) : seqa R x := r_seqaT e h
theorem q_rngv  (h : R ((List.range n.toNat).map fun (i : Nat) => .int (i : Int))) (h0 : -1000000 ≤ n := by omega) (h1 : n ≤ 1000000 := by omega) : rngv R [.c (.p (.int n))] := r_rngv h0 h1 h
theorem q_unpv {T : Tgt} {Γ1 : List SV} (h : E.nx Γ1) (e : dTgt T p Γ = some Γ1 := by with_unfolding_all rfl) : unpv T E Γ (.c (.p p)) := r_unpv e h
theorem q_varo  (h : Q (.b d)) (e : Γ[i]? = some (.o d) := by with_unfolding_all rfl) : dVar i Γ Q Ed := r_varo e h
theorem q_few {A : Prop} {R : List AV} (h : A) (e : R.length ≤ 1000 := by exact Nat.le_of_ble_eq_true (by with_unfolding_all rfl)) : R.length ≤ 1000 ∧ A := r_few h e
theorem q_kw {n m : Nat} {A : Prop} {xs ys : List AV} (h : A) (e1 : xs.length = n := by with_unfolding_all rfl) (e2 : ys.length = m := by with_unfolding_all rfl) : xs.length = n ∧ ys.length = m ∧ A := r_kw e1 e2 h
theorem q_addT  (h : Q (.c (.p (.tuple (ps ++ qs))))) (e1 : x.any = .p (.tuple ps) := by with_unfolding_all rfl) (e2 : y.any = .p (.tuple qs) := by with_unfolding_all rfl) (hl : ps.length + qs.length ≤ 1000 := by exact Nat.le_of_ble_eq_true (by with_unfolding_all rfl)) : gAddP x y Q := r_addT e1 e2 hl h
theorem q_addL  (h : Q (.f (.p (.list (ps ++ qs))))) (e1 : x.any = .p (.list ps) := by with_unfolding_all rfl) (e2 : y.any = .p (.list qs) := by with_unfolding_all rfl) (hl : ps.length + qs.length ≤ 100000 := by exact Nat.le_of_ble_eq_true (by with_unfolding_all rfl)) : gAddP x y Q := r_addL e1 e2 hl h
theorem q_mulT  (h : Q (.c (.p (.tuple (List.replicate n.toNat ps).flatten)))) (e1 : x.any = .p (.tuple ps) := by with_unfolding_all rfl) (hn : ps ≠ [] := by exact List.cons_ne_nil _ _) (h2 : 2 ≤ n := by decide) (h3 : n ≤ 1000 := by decide) (hl : ps.length ≤ 1000 := by exact Nat.le_of_ble_eq_true (by with_unfolding_all rfl)) : gMulP x (.c (dI n)) Q := r_mulT e1 hn h2 h3 hl h
theorem q_ixL  (h : Q (.c (.p p))) (e1 : x.any = .p (.list ps) := by with_unfolding_all rfl) (e : atI ps n = some p := by with_unfolding_all first | exact at0 | exact at1 | exact at2 | exact at3 | exact at_eR (by assumption)) : gIx x (.c (dI n)) Q := r_ixL e1 e h
theorem q_is  (h : Q (.c (dB k))) (e : isN x.any = some k := by with_unfolding_all rfl) : gIs x (.c dN) Q := r_is e h
theorem q_isNot  (h : Q (.c (dB (!k)))) (e : isN x.any = some k := by with_unfolding_all rfl) : gIsNot x (.c dN) Q := r_isNot e h
theorem q_lenT  (h : Q (.c (dI ps.length))) (e : x.any = .p (.tuple ps) := by with_unfolding_all rfl) : gLen [x] Q := r_lenT e h
theorem q_lenL  (h : Q (.c (dI ps.length))) (e : x.any = .p (.list ps) := by with_unfolding_all rfl) : gLen [x] Q := r_lenL e h
theorem q_isi {T : String} (h : Q (.c (dB k))) (e : isTy T x.any = some k := by with_unfolding_all rfl) : gIsi T [x, .c (.r (.ty T))] Q := r_isi e h
theorem q_listL  (h : Q (.f (.p (.list ps)))) (e : x.any = .p (.list ps) := by with_unfolding_all rfl) : gList [x] Q := r_listL e h
theorem q_listT  (h : Q (.f (.p (.list ps)))) (e : x.any = .p (.tuple ps) := by with_unfolding_all rfl) : gList [x] Q := r_listT e h
theorem q_tupL  (h : Q (.c (.p (.tuple ps)))) (e : x.any = .p (.list ps) := by with_unfolding_all rfl) : gTuple [x] Q := r_tupL e h
theorem q_tupT  (h : Q (.c (.p (.tuple ps)))) (e : x.any = .p (.tuple ps) := by with_unfolding_all rfl) : gTuple [x] Q := r_tupT e h
theorem q_lrgv  (h : Q (.f (.p (.list (rgD n))))) (h0 : -1000000 ≤ n := by omega) (h1 : n ≤ 1000000 := by omega) : lrgv Q (.c (dI n)) := r_lrgv h0 h1 h
theorem q_cntv  (h : b Γ (cnt2 ps Q) Ed) (e : x.any = .p (.tuple ps) := by with_unfolding_all rfl) : cntv b Γ Q Ed x := r_cntv e h
theorem q_slwL {lo hi : Option Int} (h : Q (.f (.p (.list (cutD ps lo hi))))) (e : x.any = .p (.list ps) := by with_unfolding_all rfl) : slw x Q lo hi := r_slwL e h
theorem q_slwT {lo hi : Option Int} (h : Q (.c (.p (.tuple (cutD ps lo hi))))) (e : x.any = .p (.tuple ps) := by with_unfolding_all rfl) : slw x Q lo hi := r_slwT e h
theorem q_lc {di : DI} {T : Tgt} {vs : List Nat} (h : di Γ (fun xs => dLcL T tb a (wipeD Γ vs) (fun ys => Q (.f (.p (.list ys)))) xs []) Ed) (e : noOwn Γ vs = true := by with_unfolding_all rfl) : dLc di T tb a vs Γ Q Ed := r_lc e h
end
end WL

set_option maxRecDepth 100000
set_option maxHeartbeats 1000000
namespace WL
open PySem PySem.Spec PyProof.Rows L2
/-! ### rules for dicts, sorted, min, pop -/
section
variable {Γ : List SV} {Q : AV → Prop} {Ed : Value → Prop} {E : EndsD} {d : D} {x y : AV} {a b : DE} {p : PyData} {ps qs is : List PyData} {i j : Nat} {k : List Int} {ks : List (List Int)} {ds : List PyData} {R : List PyData → Prop}
def dputv (i : Nat) (tk : DE) (E : EndsD) (Γ : List SV) (v : AV) : Prop := v.dat fun d => match Γ[i]? with
  | some (.o (.dct ks ds)) => tk Γ (fun x => match x.any with
    | .p (.tuple is) => (match keyD is with
      | some k => hasK ks k = false ∧ ks.length < 100000 ∧ E.nx (Γ.set i (.o (.dct (ks ++ [k]) (ds ++ [d]))))
      | none => False)
    | _ => False) (E.ex Γ)
  | _ => False
def dputw (i : Nat) (E : EndsD) (Γ : List SV) (ks : List (List Int)) (ds : List PyData) (d : PyData) (x : AV) : Prop := match x.any with
  | .p (.tuple is) => (match keyD is with
    | some k => hasK ks k = false ∧ ks.length < 100000 ∧ E.nx (Γ.set i (.o (.dct (ks ++ [k]) (ds ++ [d]))))
    | none => False)
  | _ => False
theorem r_dput (h : a Γ (dputv i b E Γ) (E.ex Γ)) : dDput i b a E Γ := h
theorem r_dputv (e : Γ[i]? = some (.o (.dct ks ds))) (h : b Γ (dputw i E Γ ks ds p) (E.ex Γ)) : dputv i b E Γ (.c (.p p)) := by
  show (match Γ[i]? with
  | some (.o (.dct ks ds)) => b Γ (dputw i E Γ ks ds p) (E.ex Γ)
  | _ => False)
  rw [e]
  exact h
theorem r_dputw (e : x.any = .p (.tuple is)) (ek : keyD is = some k) (hn : hasK ks k = false) (hl : ks.length < 100000) (h : E.nx (Γ.set i (.o (.dct (ks ++ [k]) (ds ++ [p]))))) : dputw i E Γ ks ds p x := by
  unfold dputw
  rw [e]
  simp only [ek]
  exact ⟨hn, hl, h⟩
def dict1v (Q : AV → Prop) (x y : AV) : Prop := match x with
  | .c (.p (.tuple is)) => (match keyD is with
    | some k => y.dat fun d => Q (.f (.dct [k] [d]))
    | none => False)
  | _ => False
theorem r_dict1 (h : a Γ (fun x => b Γ (fun y => dict1v Q x y) Ed) Ed) : dDict1 a b Γ Q Ed := by
  have e : dDict1 a b Γ Q Ed = a Γ (fun x => b Γ (fun y => dict1v Q x y) Ed) Ed := rfl
  rw [e]
  exact h
theorem r_dict1v (ek : keyD is = some k) (h : Q (.f (.dct [k] [p]))) : dict1v Q (.c (.p (.tuple is))) (.c (.p p)) := by
  unfold dict1v
  simp only [ek]
  exact h
def keysv (R : List PyData → Prop) (x : AV) : Prop := match x.any with
  | .fz ks _ => R (ks.map tupK)
  | _ => False
theorem r_keys (h : a Γ (keysv R) Ed) : dKeys a Γ R Ed := h
theorem r_keysv (e : x.any = .fz ks ds) (h : R (ks.map tupK)) : keysv R x := by unfold keysv; rw [e]; exact h
theorem r_dget (e1 : x.any.isD = some (ks, ds)) (e2 : y.any = .p (.tuple is)) (ek : (keyD is).bind (atD ks ds) = some p) (h : Q (.c (.p p))) : gDGet x y Q := by unfold gDGet; rw [e1, e2]; simp only [ek]; exact h
theorem r_inD {ng : Bool} (e1 : x.any = .p (.tuple is)) (e2 : y.any.isD = some (ks, ds)) (ek : keyD is = some k) (h : Q (.c (dB (if ng then !hasK ks k else hasK ks k)))) : gInP ng x y Q := by
  unfold gInP
  rw [e1]
  cases hy : y.any with
  | dct ks' ds' => rw [hy] at e2; cases e2; simp only [D.isD, ek]; exact h
  | fz ks' ds' => rw [hy] at e2; cases e2; simp only [D.isD, ek]; exact h
  | p z => rw [hy] at e2; cases e2
  | r z => rw [hy] at e2; cases e2
  | k u z => rw [hy] at e2; cases e2
theorem r_retZ {E : EndsD} (h : a Γ (fun x => match x with
  | .b (.dct ks ds) => E.rt (.fz ks ds)
  | _ => False) (E.ex Γ)) : dRetZ a E Γ := h
theorem r_retZv (e : Γ[i]? = some (.o (.dct ks ds))) (h : E.rt (.fz ks ds)) : dRetZ (dVar i) E Γ := by
  unfold dRetZ dVar
  rw [e]
  exact h
theorem r_sortL (e : x.any = .p (.list ps)) (h1 : PySem.W.AllAlike ps) (h2 : PySem.W.Sortable ps) (h3 : ps.length ≤ 100000) (h4 : ∀ d ∈ ps, d.depth ≤ 50) (h : Q (.f (.p (.list (srtD ps))))) : gSortA [x] Q := by unfold gSortA; simp only [e]; exact ⟨h1, h2, h3, h4, h⟩
theorem r_sortK (e : x.any = .fz ks ds) (h2 : PySem.W.Sortable (ks.map tupK)) (h3 : ks.length ≤ 100000) (h : Q (.f (.p (.list (srtD (ks.map tupK)))))) : gSortA [x] Q := by unfold gSortA; simp only [e, D.isD]; exact ⟨h2, h3, h⟩
theorem r_minL (e : x.any = .p (.list (p :: ps))) (h1 : PySem.W.AlikeAll (p :: ps)) (h2 : PyData.depthAll (p :: ps) ≤ 50) (h : Q (.c (.p (PySem.W.minD p ps)))) : gMinL [x] Q := by unfold gMinL; simp only [e]; exact ⟨h1, h2, h⟩
theorem r_pop0 (hij : i ≠ j) (e : Γ[i]? = some (.o (.p (.list (p :: ps))))) (h : E.nx ((Γ.set i (.o (.p (.list ps)))).set j (.d (.p p)))) : dPop0 j i E Γ := by
  refine ⟨hij, ?_⟩
  rw [e]
  exact h
theorem r_popL (hij : i ≠ j) (e : Γ[i]? = some (.o (.p (.list ps)))) (el : ps.getLast? = some p) (h : E.nx ((Γ.set i (.o (.p (.list ps.dropLast)))).set j (.d (.p p)))) : dPopL j i E Γ := by
  refine ⟨hij, ?_⟩
  rw [e]
  simp only [el]
  exact h
def revv (Q : AV → Prop) (x : AV) : Prop := match x.any with
  | .p (.list ds) => Q (.f (.p (.list ds.reverse)))
  | _ => False
theorem r_rev (h : a Γ (revv Q) Ed) : dRev a Γ Q Ed := h
theorem r_revv (e : x.any = .p (.list ps)) (h : Q (.f (.p (.list ps.reverse)))) : revv Q x := by unfold revv; rw [e]; exact h
theorem q_dict1v (h : Q (.f (.dct [k] [p]))) (ek : keyD is = some k := by exact keyD_ints _) : dict1v Q (.c (.p (.tuple is))) (.c (.p p)) := r_dict1v ek h
theorem q_dputv (h : b Γ (dputw i E Γ ks ds p) (E.ex Γ)) (e : Γ[i]? = some (.o (.dct ks ds)) := by with_unfolding_all rfl) : dputv i b E Γ (.c (.p p)) := r_dputv e h
theorem q_keysv (h : R (ks.map tupK)) (e : x.any = .fz ks ds := by with_unfolding_all rfl) : keysv R x := r_keysv e h
theorem q_inD {ng : Bool} (h : Q (.c (dB (if ng then !hasK ks k else hasK ks k)))) (e1 : x.any = .p (.tuple is) := by with_unfolding_all rfl) (e2 : y.any.isD = some (ks, ds) := by with_unfolding_all rfl) (ek : keyD is = some k := by exact keyD_ints _) : gInP ng x y Q := r_inD e1 e2 ek h
theorem q_retZv (h : E.rt (.fz ks ds)) (e : Γ[i]? = some (.o (.dct ks ds)) := by with_unfolding_all rfl) : dRetZ (dVar i) E Γ := r_retZv e h
theorem q_pop0 (h : E.nx ((Γ.set i (.o (.p (.list ps)))).set j (.d (.p p)))) (hij : i ≠ j := by decide) (e : Γ[i]? = some (.o (.p (.list (p :: ps)))) := by with_unfolding_all rfl) : dPop0 j i E Γ := r_pop0 hij e h
theorem q_revv (h : Q (.f (.p (.list ps.reverse)))) (e : x.any = .p (.list ps) := by with_unfolding_all rfl) : revv Q x := r_revv e h
/-- while, by an invariant and a measure -/
theorem r_while {c : DT} {t : DS} {α : Type} (S : α → List SV → Prop) (m : α → Nat) (J : α → Prop) {st : α} (hs : S st Γ) (hJ : J st)
    (h : ∀ st Γ N, S st Γ → J st → (∀ st' Γ', S st' Γ' → J st' → m st' < m st → N Γ') → c Γ (fun b => if b = true then t { nx := N, ct := N, bk := E.nx, rt := E.rt, ex := E.ex } Γ else E.nx Γ) (E.ex Γ)) : dWhile c t E Γ := by
  have go : ∀ n st Γ, m st < n → S st Γ → J st → dWhileN c t E n Γ := by
    intro n
    induction n with
    | zero => exact fun st Γ h => absurd h (Nat.not_lt_zero _)
    | succ n ih =>
      intro st Γ hm hs hJ
      unfold dWhileN
      exact h st Γ _ hs hJ fun st' Γ' hs' hJ' hm' => ih st' Γ' (by omega) hs' hJ'
  exact ⟨m st + 1, go _ st Γ (Nat.lt_succ_self _) hs hJ⟩
/-- for, by a state -/
theorem for_st {T : Tgt} {body : DS} {α β : Type} {enc : α → PyData} (S : β → List SV → Prop) (f : β → α → β) : ∀ {as : List α} {st : β} {Γ : List SV}, S st Γ →
    (∀ a ∈ as, ∀ (st : β) (Γ : List SV), S st Γ → ∃ Γ1, dTgt T (enc a) Γ = some Γ1 ∧ ∀ N : List SV → Prop, (∀ Γ', S (f st a) Γ' → N Γ') → body { nx := N, ct := N, bk := E.nx, rt := E.rt, ex := E.ex } Γ1) →
    (∀ Γ, S (as.foldl f st) Γ → E.nx Γ) → dForL T body E (as.map enc) Γ
  | [], st, Γ, hs, _, he => he Γ hs
  | a :: as, st, Γ, hs, h, he => by
    obtain ⟨Γ1, h1, h2⟩ := h a List.mem_cons_self st Γ hs
    rw [List.map_cons]
    exact r_forc h1 (h2 _ fun Γ' hs' => for_st S f hs' (fun b hb => h b (List.mem_cons_of_mem _ hb)) he)
/-- a comprehension whose items are known but for a relation -/
theorem lc_rel {T : Tgt} {tt : DT} {te : DE} {P : List PyData → Prop} {α β : Type} {enc : α → PyData} {dec : β → PyData} {p : α → Bool} (Rl : α → β → Prop) : ∀ {as : List α} {ys : List PyData}, (∀ a ∈ as, ∃ Γ2, dTgt T (enc a) Γ = some Γ2 ∧ (∀ Q : Bool → Prop, Q (p a) → tt Γ2 Q (fun _ => False)) ∧ (p a = true → ∀ R : PyData → Prop, (∀ z, Rl a z → R (dec z)) → te Γ2 (fun y => y.dat R) (fun _ => False))) →
    ys.length + as.length ≤ 100000 → (∀ zs : List β, zs.length = (as.filter p).length → (∀ (i : Nat) (a : α) (z : β), (as.filter p)[i]? = some a → zs[i]? = some z → Rl a z) → P (ys ++ zs.map dec)) → dLcL T tt te Γ P (as.map enc) ys
  | [], ys, _, _, hP => by
    have e : ys ++ ([] : List β).map dec = ys := by simp
    have := hP [] rfl fun i a z h => by simp at h
    rw [e] at this
    exact this
  | a :: as, ys, h, hl, hP => by
    obtain ⟨Γ2, h1, h2, h3⟩ := h a List.mem_cons_self
    have hl' : ys.length + (as.length + 1) ≤ 100000 := hl
    rw [List.map_cons]
    unfold dLcL
    rw [h1]
    refine h2 _ ?_
    cases e : p a with
    | true =>
      rw [if_pos rfl]
      refine h3 e _ fun z hz => ⟨by omega, lc_rel Rl (fun b hb => h b (List.mem_cons_of_mem _ hb)) (by rw [List.length_append, List.length_singleton]; omega) fun zs hl2 hzs => ?_⟩
      rw [List.filter_cons_of_pos e] at hP
      rw [List.append_assoc]
      refine hP (z :: zs) (by rw [List.length_cons, List.length_cons, hl2]) fun i b y e1 e2 => ?_
      cases i with
      | zero => simp at e1 e2; rw [← e1, ← e2]; exact hz
      | succ i => simp at e1 e2; exact hzs i b y e1 e2
    | false =>
      rw [if_neg (by decide)]
      rw [List.filter_cons_of_neg (by rw [e]; decide)] at hP
      exact lc_rel Rl (fun b hb => h b (List.mem_cons_of_mem _ hb)) (by omega) hP
theorem r_sortT (e : x.any = .p (.tuple ps)) (h1 : PySem.W.AllAlike ps) (h2 : PySem.W.Sortable ps) (h3 : ps.length ≤ 100000) (h4 : ∀ d ∈ ps, d.depth ≤ 50) (h : Q (.f (.p (.list (srtD ps))))) : gSortA [x] Q := by unfold gSortA; simp only [e]; exact ⟨h1, h2, h3, h4, h⟩
/-- for, its state as it was, or left -/
theorem for_ok {T : Tgt} {body : DS} {α : Type} {enc : α → PyData} (S : List SV → Prop) : ∀ {as : List α} {Γ : List SV}, S Γ →
    (∀ a ∈ as, ∀ (Γ : List SV), S Γ → ∃ Γ1, dTgt T (enc a) Γ = some Γ1 ∧ ∀ N : List SV → Prop, (∀ Γ', S Γ' → N Γ') → (∀ Γ', S Γ' → E.nx Γ') → body { nx := N, ct := N, bk := E.nx, rt := E.rt, ex := E.ex } Γ1) →
    (∀ Γ, S Γ → E.nx Γ) → dForL T body E (as.map enc) Γ
  | [], Γ, hs, _, he => he Γ hs
  | a :: as, Γ, hs, h, he => by
    obtain ⟨Γ1, h1, h2⟩ := h a List.mem_cons_self Γ hs
    rw [List.map_cons]
    exact r_forc h1 (h2 _ (fun Γ' hs' => for_ok S hs' (fun b hb => h b (List.mem_cons_of_mem _ hb)) he) he)
end
end WL

set_option maxRecDepth 100000
set_option maxHeartbeats 1000000
namespace WL
open PySem PySem.Spec PyProof.Rows L2
/-! ### plain, shallow -/
theorem plain_all {xs : List PyData} (h : ∀ x ∈ xs, x.plain = true) : PyData.plainAll xs = true := by
  induction xs with
  | nil => rfl
  | cons x xs ih =>
    rw [PyData.plainAll, h x List.mem_cons_self, ih fun y hy => h y (List.mem_cons_of_mem _ hy)]
    rfl
theorem depth_all {xs : List PyData} {n : Nat} (h : ∀ x ∈ xs, x.depth ≤ n) : PyData.depthAll xs ≤ n := by
  induction xs with
  | nil => unfold PyData.depthAll; exact Nat.zero_le _
  | cons x xs ih =>
    unfold PyData.depthAll
    exact Nat.max_le.mpr ⟨h x List.mem_cons_self, ih fun y hy => h y (List.mem_cons_of_mem _ hy)⟩
theorem depth_int (i : Int) : (PyData.int i).depth ≤ 1 := by unfold PyData.depth; omega
theorem depth_tup {xs : List PyData} {n : Nat} (h : ∀ x ∈ xs, x.depth ≤ n) : (PyData.tuple xs).depth ≤ n + 1 := by
  have := depth_all h
  unfold PyData.depth
  omega
theorem depth_lst {xs : List PyData} {n : Nat} (h : ∀ x ∈ xs, x.depth ≤ n) : (PyData.list xs).depth ≤ n + 1 := by
  have := depth_all h
  unfold PyData.depth
  omega
theorem plain_lst {xs : List PyData} (h : PyData.plainAll xs = true) : (PyData.list xs).plain = true := by rw [PyData.plain]; exact h
theorem plain_tup' {xs : List PyData} (h : PyData.plainAll xs = true) : (PyData.tuple xs).plain = true := by rw [PyData.plain]; exact h
theorem depth_2 (a b : Int) : (PyData.tuple [.int a, .int b]).depth ≤ 60 := Nat.le_trans (depth_tup (n := 1) fun x hx => by
  simp only [List.mem_cons, List.not_mem_nil, or_false] at hx
  rcases hx with rfl | rfl <;> exact depth_int _) (by decide)
theorem plain_eH (h : Hold) : (eH h).plain = true := rfl
theorem depth_eH (h : Hold) : (eH h).depth ≤ 2 := depth_tup (n := 1) fun x hx => by
  simp only [List.mem_cons, List.not_mem_nil, or_false] at hx
  rcases hx with rfl | rfl | rfl <;> exact depth_int _
theorem plain_eB (b : Body) : (eB b).plain = true := rfl
theorem plain_eS (s : List Int) : (eS s).plain = true := plain_tup' (plain_ints s)
theorem depth_eS (s : List Int) : (eS s).depth ≤ 2 := depth_tup (n := 1) fun x hx => by
  obtain ⟨i, _, rfl⟩ := List.mem_map.mp hx
  exact depth_int i
theorem plain_eR (r : List Hold) : (eR r).plain = true := plain_tup' (plain_all fun x hx => by
  obtain ⟨h, _, rfl⟩ := List.mem_map.mp hx
  exact plain_eH h)
theorem eqv_2 (a b c d : Int) : PyData.eqv (.tuple [.int a, .int b]) (.tuple [.int c, .int d]) = (decide (a = c) && decide (b = d)) := by
  rw [PyData.eqv, PyData.eqvAll, PyData.eqvAll, PyData.eqvAll, eqv_int, eqv_int, Bool.and_true]
theorem eqv_nil (xs : List PyData) : PyData.eqv (.list xs) (.list []) = xs.isEmpty := by
  cases xs <;> (rw [PyData.eqv]; rfl)
theorem eqv_ints : ∀ a b : List Int, PyData.eqvAll (a.map .int) (b.map .int) = decide (a = b)
  | [], [] => by rw [List.map_nil, PyData.eqvAll]; rfl
  | [], y :: b => by rw [List.map_nil, List.map_cons, PyData.eqvAll]; rfl
  | x :: a, [] => by rw [List.map_nil, List.map_cons, PyData.eqvAll]; rfl
  | x :: a, y :: b => by
    rw [List.map_cons, List.map_cons, PyData.eqvAll, eqv_int, eqv_ints a b]
    by_cases h1 : x = y
    · by_cases h2 : a = b
      · rw [h1, h2]; simp
      · simp [h1, h2]
    · simp [h1]
theorem eqv_eS (a b : List Int) : PyData.eqv (eS a) (eS b) = decide (a = b) := by
  unfold eS
  rw [PyData.eqv]
  exact eqv_ints a b
theorem eqv_rows : ∀ a b : List (List Int), PyData.eqvAll (a.map eS) (b.map eS) = decide (a = b)
  | [], [] => by rw [List.map_nil, PyData.eqvAll]; rfl
  | [], y :: b => by rw [List.map_nil, List.map_cons, PyData.eqvAll]; rfl
  | x :: a, [] => by rw [List.map_nil, List.map_cons, PyData.eqvAll]; rfl
  | x :: a, y :: b => by
    rw [List.map_cons, List.map_cons, PyData.eqvAll, eqv_eS, eqv_rows a b]
    by_cases h1 : x = y
    · by_cases h2 : a = b
      · rw [h1, h2]; simp
      · simp [h1, h2]
    · simp [h1]
/-! ### lists of drawn ints -/
theorem lc_ints {T : Tgt} {te : DE} {Γ : List SV} {P : List PyData → Prop} {lo hi : Int} : ∀ {as ys : List PyData}, (∀ a ∈ as, ∃ Γ2, dTgt T a Γ = some Γ2 ∧ ∀ R : PyData → Prop, (∀ z, lo ≤ z → z < hi → R (.int z)) → te Γ2 (fun y => y.dat R) (fun _ => False)) →
    ys.length + as.length ≤ 100000 → (∀ s : List Int, s.length = as.length → (∀ z ∈ s, lo ≤ z ∧ z < hi) → P (ys ++ s.map .int)) → dLcL T dYes te Γ P as ys
  | [], ys, _, _, hP => by
    have := hP [] rfl fun _ h => nomatch h
    rw [List.map_nil, List.append_nil] at this
    exact this
  | a :: as, ys, h, hl, hP => by
    obtain ⟨Γ2, h1, h2⟩ := h a List.mem_cons_self
    have hl' : ys.length + (as.length + 1) ≤ 100000 := hl
    unfold dLcL
    rw [h1]
    refine r_yes (r_t rfl (h2 _ fun z z0 z1 => ⟨by omega, lc_ints (fun b hb => h b (List.mem_cons_of_mem _ hb)) (by rw [List.length_append, List.length_singleton]; omega) fun s hs hz => ?_⟩))
    have := hP (z :: s) (by rw [List.length_cons, List.length_cons, hs]) fun w hw => by
      rcases List.mem_cons.mp hw with rfl | hw
      · exact ⟨z0, z1⟩
      · exact hz w hw
    rw [List.map_cons] at this
    rw [List.append_assoc]
    exact this
/-! ### the law's own code -/
def far2 (t a b : Int) : Bool := decide (t < a - b) || decide (t < b - a)
def farP (r : List Hold) (t i j : Int) : Bool := far2 t (hd r i).1 (hd r j).1 || far2 t (hd r i).2.1 (hd r j).2.1
def fullB (r : List Hold) (s : List Int) (h : Int) : Bool := decide ((hd r h).2.2 < ((s.filter fun z => decide (z = h)).length : Int))
def lowB (r : List Hold) (f i j : Int) : Bool := decide ((hd r i).2.1 < (hd r f).2.1) || decide ((hd r j).2.1 < (hd r f).2.1)
def crossB (r : List Hold) (i j c : Int) : Bool := decide ((hd r j).1 + c < (hd r i).1)
def lkept (r : List Hold) (b : Body) (i j k l : Int) : Bool :=
  !fullB r [i, j, k, l] i && (!fullB r [i, j, k, l] j && (!fullB r [i, j, k, l] k && (!fullB r [i, j, k, l] l &&
  (!farP r b.1 i j && (!farP r b.2.1 k l && (!farP r b.2.2.1 i k && (!farP r b.2.2.1 i l && (!farP r b.2.2.1 j k && (!farP r b.2.2.1 j l &&
  (!lowB r k i j && (!lowB r l i j && (!crossB r i j b.2.2.2 && !crossB r k l b.2.2.2))))))))))))
theorem farP_ap {r : List Hold} {t i j : Int} : farP r t i j = decide (t < apI r i j) := by
  rw [Bool.eq_iff_iff]
  unfold farP far2
  simp only [Bool.or_eq_true, decide_eq_true_eq]
  unfold apI maxI absI
  constructor
  · intro h
    split <;> split <;> split <;> omega
  · intro h
    split at h <;> split at h <;> split at h <;> omega
theorem full_room {r : List Hold} {s : List Int} : roomOk r s = s.all fun h => !fullB r s h := by
  unfold roomOk fullB
  congr 1
  funext h
  rw [List.countP_eq_length_filter]
  by_cases q : (hd r h).2.2 < ((s.filter fun z => decide (z = h)).length : Int)
  · rw [decide_eq_true q, decide_eq_false (by omega)]
    rfl
  · rw [decide_eq_false q, decide_eq_true (by omega)]
    rfl
theorem lkept_eq {r : List Hold} {b : Body} {i j k l : Int} : lkept r b i j k l = kept r b i j k l := by
  unfold lkept kept farB
  rw [full_room]
  simp only [farP_ap, List.all_cons, List.all_nil, Bool.and_true]
  rw [Bool.eq_iff_iff]
  unfold lowB crossB sorted2
  simp only [Bool.and_eq_true, Bool.not_eq_true', Bool.or_eq_false_iff, decide_eq_false_iff_not, decide_eq_true_eq, Bool.not_eq_false', Bool.not_not]
  constructor
  · rintro ⟨h1, h2, h3, h4, h5, h6, h7, h8, h9, h10, h11, h12, h13, h14⟩
    refine ⟨⟨⟨h1, h2, h3, h4⟩, h5, h6⟩, ⟨h7, h11.1⟩, ⟨h8, h12.1⟩, ⟨h9, h11.2⟩, ⟨h10, h12.2⟩, by omega, by omega⟩
  · rintro ⟨⟨⟨h1, h2, h3, h4⟩, h5, h6⟩, ⟨h7, h11⟩, ⟨h8, h12⟩, ⟨h9, h13⟩, ⟨h10, h14⟩, h15, h16⟩
    exact ⟨h1, h2, h3, h4, h5, h6, h7, h8, h9, h10, ⟨h11, h13⟩, ⟨h12, h14⟩, by omega, by omega⟩
/-! ### what the law's defs promise -/
def sp__law_is : DSp := fun _ ds Q _ => ∃ b c : Bool, ds = [dB b, dB c] ∧ Q (dB (b == c))
def sp__law_body (K : PySem.W.Frag) : DSp := fun tw ds Q _ => ∃ x y : D, ds = [x, y] ∧ Tn K tw x y ∧ ∀ b : Body, 1 ≤ b.1 → b.1 ≤ 4 → 1 ≤ b.2.1 → b.2.1 ≤ 4 → 2 ≤ b.2.2.1 → b.2.2.1 ≤ 6 → 0 ≤ b.2.2.2 → b.2.2.2 ≤ 3 → Q (.p (eB b))
def RockD (r : List Hold) : Prop := (∀ h ∈ r, (8 ≤ h.1 ∧ h.1 ≤ 12) ∧ (0 ≤ h.2.1 ∧ h.2.1 ≤ 6) ∧ 1 ≤ h.2.2 ∧ h.2.2 ≤ 2) ∧ (r.map fun h => [h.1, h.2.1]).Nodup
def sp__law_rock (K : PySem.W.Frag) : DSp := fun tw ds Q _ => ∃ (x y : D) (m : Int), ds = [x, y, dI m] ∧ Tn K tw x y ∧ 1 ≤ m ∧ m ≤ 7 ∧ ∀ r : List Hold, RockD r → 1 ≤ r.length → (r.length : Int) ≤ m → Q (.p (eR r))
theorem RockD.ok {r : List Hold} (h : RockD r) (h1 : 1 ≤ r.length) (h2 : r.length ≤ 7) : RockOk r := ⟨h1, h2, fun a ha => by
  obtain ⟨h3, h4, h5⟩ := h.1 a ha
  exact ⟨by omega, by omega, h5⟩, h.2⟩
def sp__law_kept : DSp := fun _ ds Q _ => ∃ (r : List Hold) (b : Body) (i j k l : Int), ds = [.p (eR r), .p (eB b), .p (eS [i, j, k, l])] ∧ InR r i ∧ InR r j ∧ InR r k ∧ InR r l ∧ Q (dB (kept r b i j k l))
def sp__law_all : DSp := fun _ ds Q _ => ∃ (r : List Hold) (b : Body), ds = [.p (eR r), .p (eB b)] ∧ r.length ≤ 7 ∧ Q (.p (.list ((goodS r b).map eS)))
/-- a place that is there already -/
theorem found_iff {r : List Hold} {x y : Int} : ((r.filter fun h => decide (h.1 = x) && decide (h.2.1 = y)).map eH).isEmpty = true → [x, y] ∉ r.map fun h => [h.1, h.2.1] := by
  intro h hm
  obtain ⟨a, ha, e⟩ := List.mem_map.mp hm
  have h1 : a.1 = x := by simpa using congrArg (fun l => l.headD 0) e
  have h2 : a.2.1 = y := by
    have := congrArg (fun l => (l.drop 1).headD 0) e
    simpa using this
  have hf : a ∈ r.filter fun h => decide (h.1 = x) && decide (h.2.1 = y) := List.mem_filter.mpr ⟨ha, by rw [decide_eq_true h1, decide_eq_true h2]; rfl⟩
  rw [List.isEmpty_iff, List.map_eq_nil_iff] at h
  rw [h] at hf
  cases hf
theorem eR_snoc (r : List Hold) (h : Hold) : (r.map eH) ++ [eH h] = (r ++ [h]).map eH := by rw [List.map_append]; rfl
/-! ### loops that gather -/
theorem for_acc {T : Tgt} {body : DS} {E : EndsD} {α : Type} {enc : α → PyData} (S : List PyData → List SV → Prop) (g : α → List PyData) : ∀ {as : List α} {acc : List PyData} {Γ : List SV}, S acc Γ →
    (acc ++ as.flatMap g).length ≤ 99999 →
    (∀ a ∈ as, ∀ (acc : List PyData) (Γ : List SV), S acc Γ → (acc ++ g a).length ≤ 99999 → ∃ Γ1, dTgt T (enc a) Γ = some Γ1 ∧ ∀ N : List SV → Prop, (∀ Γ', S (acc ++ g a) Γ' → N Γ') → body { nx := N, ct := N, bk := E.nx, rt := E.rt, ex := E.ex } Γ1) →
    (∀ Γ, S (acc ++ as.flatMap g) Γ → E.nx Γ) → dForL T body E (as.map enc) Γ
  | [], acc, Γ, hs, _, _, he => he Γ (by rw [List.flatMap_nil, List.append_nil]; exact hs)
  | a :: as, acc, Γ, hs, hl, h, he => by
    rw [List.flatMap_cons, ← List.append_assoc] at hl
    have hl1 : (acc ++ g a).length ≤ 99999 := by
      rw [List.length_append] at hl
      omega
    obtain ⟨Γ1, h1, h2⟩ := h a List.mem_cons_self acc Γ hs hl1
    rw [List.map_cons]
    refine r_forc h1 (h2 _ fun Γ' hs' => for_acc S g (acc := acc ++ g a) hs' hl (fun b hb => h b (List.mem_cons_of_mem _ hb)) fun Γ2 hs2 => he Γ2 ?_)
    rw [List.flatMap_cons, ← List.append_assoc]
    exact hs2
theorem flat_le {α β : Type} {f : α → List β} {m : Nat} : ∀ {l : List α}, (∀ a ∈ l, (f a).length ≤ m) → (l.flatMap f).length ≤ l.length * m
  | [], _ => by simp
  | a :: l, h => by
    have h1 := h a List.mem_cons_self
    have h2 := flat_le (l := l) fun b hb => h b (List.mem_cons_of_mem _ hb)
    rw [List.flatMap_cons, List.length_append, List.length_cons, Nat.succ_mul]
    omega
theorem rgD_len {α : Type} (xs : List α) : rgD ((xs.length : Nat) : Int) = (List.range xs.length).map fun (i : Nat) => PyData.int i := by
  unfold rgD
  rw [Int.toNat_natCast]
def gK (r : List Hold) (b : Body) (i j k l : Nat) : List PyData := if kept r b i j k l = true then [eS [(i : Int), j, k, l]] else []
def g3 (r : List Hold) (b : Body) (i j k : Nat) : List PyData := (List.range r.length).flatMap (gK r b i j k)
def g2 (r : List Hold) (b : Body) (i j : Nat) : List PyData := (List.range r.length).flatMap (g3 r b i j)
def g1 (r : List Hold) (b : Body) (i : Nat) : List PyData := (List.range r.length).flatMap (g2 r b i)
theorem filter_flat {α β : Type} (p : α → Bool) (f : α → β) : ∀ l : List α, (l.filter p).map f = l.flatMap fun x => if p x = true then [f x] else []
  | [] => rfl
  | x :: l => by
    rw [List.flatMap_cons, ← filter_flat p f l]
    cases e : p x with
    | true => rw [List.filter_cons_of_pos e, List.map_cons, if_pos rfl]; rfl
    | false => rw [List.filter_cons_of_neg (by rw [e]; decide), if_neg (by decide), List.nil_append]
theorem rows_flat {β : Type} (n k : Nat) (F : List Int → List β) : (rowsN n (k + 1)).flatMap F = (rowsN n k).flatMap fun row => (List.range n).flatMap fun (i : Nat) => F (row ++ [(i : Int)]) := by
  rw [rowsN_succ, List.flatMap_assoc]
  congr 1
  funext row
  unfold extR
  rw [List.flatMap_map]
theorem all_good (r : List Hold) (b : Body) : (List.range r.length).flatMap (g1 r b) = (goodS r b).map eS := by
  unfold goodS
  rw [filter_flat, rows_flat, rows_flat, rows_flat, rows_flat]
  show _ = [[]].flatMap _
  rw [List.flatMap_cons, List.flatMap_nil, List.append_nil]
  rfl
theorem gK_le (r : List Hold) (b : Body) (i j k l : Nat) : (gK r b i j k l).length ≤ 1 := by
  unfold gK
  split <;> simp
theorem g3_le {r : List Hold} (b : Body) (h : r.length ≤ 7) (i j k : Nat) : (g3 r b i j k).length ≤ 7 := by
  have := flat_le (l := List.range r.length) fun l _ => gK_le r b i j k l
  rw [List.length_range] at this
  unfold g3
  omega
theorem g2_le {r : List Hold} (b : Body) (h : r.length ≤ 7) (i j : Nat) : (g2 r b i j).length ≤ 49 := by
  have := flat_le (l := List.range r.length) fun l _ => g3_le b h i j l
  rw [List.length_range] at this
  unfold g2
  omega
theorem g1_le {r : List Hold} (b : Body) (h : r.length ≤ 7) (i : Nat) : (g1 r b i).length ≤ 343 := by
  have := flat_le (l := List.range r.length) fun l _ => g2_le b h i l
  rw [List.length_range] at this
  unfold g1
  omega
end WL

set_option maxRecDepth 100000
set_option maxHeartbeats 1000000
namespace WL
open PySem PySem.Spec PyProof.Rows L2
/-! ### using what the program's functions promise -/
theorem eH_inj {a b : Hold} (h : eH a = eH b) : a = b := by
  unfold eH at h
  injection h with h
  injection h with h1 h
  injection h with h2 h
  injection h with h3 h
  injection h1 with h1
  injection h2 with h2
  injection h3 with h3
  exact Prod.ext h1 (Prod.ext h2 h3)
theorem map_inj {α β : Type} {f : α → β} (hf : ∀ a b, f a = f b → a = b) : ∀ {xs ys : List α}, xs.map f = ys.map f → xs = ys
  | [], [], _ => rfl
  | [], _ :: _, h => by cases h
  | _ :: _, [], h => by cases h
  | x :: xs, y :: ys, h => by
    rw [List.map_cons, List.map_cons] at h
    injection h with h1 h2
    rw [hf _ _ h1, map_inj hf h2]
theorem eR_inj {a b : List Hold} (h : eR a = eR b) : a = b := by
  unfold eR at h
  injection h with h
  exact map_inj (fun _ _ => eH_inj) h
theorem eB_inj {a b : Body} (h : eB a = eB b) : a = b := by
  unfold eB at h
  injection h with h
  injection h with h1 h
  injection h with h2 h
  injection h with h3 h
  injection h with h4 h
  injection h1 with h1
  injection h2 with h2
  injection h3 with h3
  injection h4 with h4
  exact Prod.ext h1 (Prod.ext h2 (Prod.ext h3 h4))
section
variable {ec : Str → Addr} {tw : Tw} {r : List Hold} {b : Body} {x : PyData} {Q : D → Prop} {E : Value → Prop}
theorem use_stances (hr : RockOk r) (hb : BodyOk b) (h : Q (.p (.tuple ((goodS r b).map eS)))) : sp_stances ec tw [.p (eR r), .p (eB b)] Q E := by
  refine ⟨_, _, rfl, plain_eR r, plain_eB b, ?_⟩
  rw [if_pos (rockOk_eR hr), if_pos (bodyOk_eB hb)]
  intro r' b' e1 e2 _ _
  rw [← eR_inj e1, ← eB_inj e2]
  exact h
theorem use_good (hr : RockOk r) (hb : BodyOk b) (hx : x.plain = true) (h : Q (dB (goodOne r b x))) : sp_is_good ec tw [.p (eR r), .p (eB b), .p x] Q E := by
  refine ⟨_, _, x, rfl, plain_eR r, plain_eB b, hx, ?_⟩
  rw [if_pos (rockOk_eR hr), if_pos (bodyOk_eB hb)]
  intro r' b' e1 e2 _ _
  rw [← eR_inj e1, ← eB_inj e2]
  exact h
theorem use_bad (hr : RockOk r) (hb : BodyOk b) (hx : x.plain = true) (e : goodOne r b x = false) (h : Q (dB false)) : sp_is_good ec tw [.p (eR r), .p (eB b), .p x] Q E := use_good hr hb hx (by rw [e]; exact h)
end
theorem bad_list {r : List Hold} {b : Body} {xs : List PyData} : goodOne r b (.list xs) = false := rfl
theorem bad_len {r : List Hold} {b : Body} {xs : List PyData} (h : (xs.length : Int) ≠ 4) : goodOne r b (.tuple xs) = false := by
  unfold goodOne
  rw [areBtw_tup, decide_eq_false h]
  rfl
theorem bad_in {r : List Hold} {b : Body} {xs : List PyData} {x : PyData} (hx : x ∈ xs) (h : btw x 0 (r.length - 1) = false) : goodOne r b (.tuple xs) = false := by
  unfold goodOne
  have e : (xs.all fun x => btw x 0 (r.length - 1)) = false := List.all_eq_false.mpr ⟨x, hx, by rw [h]; decide⟩
  rw [areBtw_tup, e, Bool.and_false]
  rfl
theorem mem_rows {n : Nat} : ∀ {k : Nat} {s : List Int}, s.length = k → (∀ i ∈ s, 0 ≤ i ∧ i < (n : Int)) → s ∈ rowsN n k
  | 0, s, h, _ => by
    rw [List.length_eq_zero_iff.mp h]
    exact List.mem_singleton.mpr rfl
  | k + 1, s, h, hs => by
    obtain ⟨t, i, rfl⟩ : ∃ t i, s = t ++ [i] := ⟨s.dropLast, s.getLast (by intro e; rw [e] at h; cases h), (List.dropLast_concat_getLast _).symm⟩
    rw [rowsN_succ]
    rw [List.length_append, List.length_singleton] at h
    have hi := hs i (by simp)
    refine List.mem_flatMap.mpr ⟨t, mem_rows (by omega) fun j hj => hs j (List.mem_append_left _ hj), ?_⟩
    unfold extR
    exact List.mem_map.mpr ⟨i.toNat, List.mem_range.mpr (by omega), by rw [Int.toNat_of_nonneg hi.1]⟩
theorem goodOne_eS {r : List Hold} {b : Body} {s : List Int} (hl : s.length = 4) (hs : ∀ i ∈ s, 0 ≤ i ∧ i < (r.length : Int)) : goodOne r b (eS s) = keptL r b s := by
  match s, hl with
  | [i, j, k, l], _ =>
    unfold goodOne
    have e : areBtw (eS [i, j, k, l]) 4 0 (r.length - 1) = true := areBtw_ints rfl fun z hz => by
      have := hs z hz
      omega
    rw [e]
    rfl
theorem good_in {r : List Hold} {b : Body} {s : List Int} (hl : s.length = 4) (hs : ∀ i ∈ s, 0 ≤ i ∧ i < (r.length : Int)) : goodOne r b (eS s) = ((goodS r b).map eS).any fun z => PyData.eqv z (eS s) := by
  rw [goodOne_eS hl hs, List.any_map]
  have e : ((fun z => PyData.eqv z (eS s)) ∘ eS) = fun t => decide (t = s) := funext fun t => eqv_eS t s
  rw [e]
  unfold goodS
  cases h : keptL r b s with
  | true => exact (List.any_eq_true.mpr ⟨s, List.mem_filter.mpr ⟨mem_rows hl hs, h⟩, decide_eq_true rfl⟩).symm
  | false =>
    refine (List.any_eq_false.mpr fun t ht e => ?_).symm
    rw [of_decide_eq_true e] at ht
    rw [(List.mem_filter.mp ht).2] at h
    cases h
theorem good_mem {r : List Hold} {b : Body} {s : List Int} (h : s ∈ goodS r b) : ∃ i j k l : Int, s = [i, j, k, l] ∧ InR r i ∧ InR r j ∧ InR r k ∧ InR r l ∧ goodOne r b (eS s) = true := by
  obtain ⟨h1, h2⟩ := List.mem_filter.mp h
  have g := rowsN_rng s h1
  have hg := goodOne_eS (b := b) (rowsN_len s h1) g
  obtain ⟨i, j, k, l, rfl⟩ := rows4 h1
  exact ⟨i, j, k, l, rfl, g i (by simp), g j (by simp), g k (by simp), g l (by simp), hg.trans h2⟩
theorem cut_map {α : Type} (f : α → PyData) (l : List α) (lo hi : Option Int) : ∃ l' : List α, cutD (l.map f) lo hi = l'.map f ∧ ∀ a ∈ l', a ∈ l := by
  unfold cutD
  rw [List.length_map, ← List.map_drop, ← List.map_take]
  exact ⟨_, rfl, fun a h => List.mem_of_mem_drop (List.mem_of_mem_take h)⟩
theorem plain_rows (l : List (List Int)) : PyData.plainAll (l.map eS) = true := plain_all fun x hx => by
  obtain ⟨s, _, rfl⟩ := List.mem_map.mp hx
  exact plain_eS s
theorem depth_rows (l : List (List Int)) : (PyData.tuple (l.map eS)).depth ≤ 3 := depth_tup (n := 2) fun x hx => by
  obtain ⟨s, _, rfl⟩ := List.mem_map.mp hx
  exact depth_eS s
theorem same_rows (l : List (List Int)) : PyData.eqv (.tuple (l.map eS)) (.tuple (l.map eS)) = true := by
  rw [PyData.eqv, eqv_rows]
  exact decide_eq_true rfl
theorem use_is {tw : Tw} {b c : Bool} {Q : D → Prop} {E : Value → Prop} (e : b = c) (h : Q (dB true)) : sp__law_is tw [dB b, dB c] Q E := ⟨b, c, rfl, by rw [e, beq_self_eq_true]; exact h⟩
theorem btw_hi (r : List Hold) : btw (.int ((r.map eH).length : Int)) 0 (r.length - 1) = false := by
  rw [btw_int, List.length_map, decide_eq_false (show ¬ (r.length : Int) ≤ r.length - 1 by omega), Bool.and_false]
end WL

/-! ### walks in a finite graph -/
namespace WL
inductive Wk {α : Type} (rows : List α) (adj : α → α → Bool) : Nat → α → α → Prop
  | nil {s : α} : s ∈ rows → Wk rows adj 0 s s
  | snoc {n : Nat} {s t u : α} : Wk rows adj n s t → u ∈ rows → adj t u = true → Wk rows adj (n + 1) s u
section
variable {α : Type} {rows : List α} {adj : α → α → Bool}
theorem Wk.fst {n : Nat} {s t : α} (h : Wk rows adj n s t) : s ∈ rows := by
  induction h with
  | nil h => exact h
  | snoc _ _ _ ih => exact ih
theorem Wk.lst {n : Nat} {s t : α} (h : Wk rows adj n s t) : t ∈ rows := by
  cases h with
  | nil h => exact h
  | snoc _ h _ => exact h
theorem Wk.trans {n m : Nat} {s t u : α} (h : Wk rows adj n s t) (k : Wk rows adj m t u) : Wk rows adj (n + m) s u := by
  induction k with
  | nil _ => exact h
  | snoc _ h1 h2 ih => exact .snoc (ih h) h1 h2
theorem Wk.one {s t : α} (hs : s ∈ rows) (ht : t ∈ rows) (h : adj s t = true) : Wk rows adj 1 s t := .snoc (.nil hs) ht h
theorem Wk.symm (sy : ∀ a b, adj a b = adj b a) {n : Nat} {s t : α} (h : Wk rows adj n s t) : Wk rows adj n t s := by
  induction h with
  | nil h => exact .nil h
  | @snoc n s t u h1 h2 h3 ih =>
    have e : n + 1 = 1 + n := by omega
    rw [e]
    exact (Wk.one h2 h1.lst (by rw [sy]; exact h3)).trans ih
theorem Wk.mono {β : Type} {rows' : List β} {adj' : β → β → Bool} (f : α → β) (h1 : ∀ a ∈ rows, f a ∈ rows') (h2 : ∀ a b, a ∈ rows → b ∈ rows → adj a b = true → adj' (f a) (f b) = true) {n : Nat} {s t : α} (h : Wk rows adj n s t) : Wk rows' adj' n (f s) (f t) := by
  induction h with
  | nil h => exact .nil (h1 _ h)
  | snoc k h3 h4 ih => exact .snoc ih (h1 _ h3) (h2 _ _ k.lst h3 h4)
theorem Wk.zero {s t : α} (h : Wk rows adj 0 s t) : s = t := by cases h; rfl
theorem Wk.succ {n : Nat} {s u : α} (h : Wk rows adj (n + 1) s u) : ∃ t, Wk rows adj n s t ∧ adj t u = true := by
  cases h with
  | snoc h1 h2 h3 => exact ⟨_, h1, h3⟩
/-- the least length of a walk -/
def IsD (rows : List α) (adj : α → α → Bool) (n : Nat) (s t : α) : Prop := Wk rows adj n s t ∧ ∀ m, m < n → ¬ Wk rows adj m s t
theorem isD_ex {n : Nat} {s t : α} (h : Wk rows adj n s t) : ∃ m, m ≤ n ∧ IsD rows adj m s t := by
  induction n using Nat.strongRecOn with
  | ind n ih =>
    by_cases q : ∃ m, m < n ∧ Wk rows adj m s t
    · obtain ⟨m, hm, hw⟩ := q
      obtain ⟨k, hk, hd⟩ := ih m hm hw
      exact ⟨k, by omega, hd⟩
    · exact ⟨n, Nat.le_refl _, h, fun m hm hw => q ⟨m, hm, hw⟩⟩
theorem IsD.le {n m : Nat} {s t : α} (h : IsD rows adj n s t) (k : Wk rows adj m s t) : n ≤ m := by
  by_cases q : m < n
  · exact absurd k (h.2 m q)
  · omega
theorem IsD.uniq {n m : Nat} {s t : α} (h : IsD rows adj n s t) (k : IsD rows adj m s t) : n = m := Nat.le_antisymm (h.le k.1) (k.le h.1)
noncomputable def dist (rows : List α) (adj : α → α → Bool) (s t : α) : Option Nat := @dite _ (∃ n, IsD rows adj n s t) (Classical.propDecidable _) (fun h => some (Classical.choose h)) (fun _ => none)
theorem dist_some {s t : α} {n : Nat} : dist rows adj s t = some n ↔ IsD rows adj n s t := by
  unfold dist
  by_cases h : ∃ n, IsD rows adj n s t
  · rw [dif_pos h, Option.some.injEq]
    have := Classical.choose_spec h
    exact ⟨fun e => by rw [← e]; exact this, fun k => this.uniq k⟩
  · rw [dif_neg h]
    exact ⟨fun e => (by cases e), fun k => absurd ⟨n, k⟩ h⟩
theorem dist_none {s t : α} : dist rows adj s t = none ↔ ∀ n, ¬ Wk rows adj n s t := by
  constructor
  · intro e n h
    obtain ⟨m, _, hd⟩ := isD_ex h
    rw [dist_some.mpr hd] at e
    cases e
  · intro h
    cases e : dist rows adj s t with
    | none => rfl
    | some n => exact absurd (dist_some.mp e).1 (h n)
theorem dist_le {s t : α} {n : Nat} (h : Wk rows adj n s t) : ∃ m, dist rows adj s t = some m ∧ m ≤ n := by
  obtain ⟨m, hm, hd⟩ := isD_ex h
  exact ⟨m, dist_some.mpr hd, hm⟩
theorem dist_symm (sy : ∀ a b, adj a b = adj b a) (s t : α) : dist rows adj s t = dist rows adj t s := by
  cases e : dist rows adj t s with
  | none => exact dist_none.mpr fun n h => dist_none.mp e n (h.symm sy)
  | some n =>
    have h := dist_some.mp e
    exact dist_some.mpr ⟨h.1.symm sy, fun m hm k => h.2 m hm (k.symm sy)⟩
theorem dist_zero {s t : α} (hs : s ∈ rows) : dist rows adj s t = some 0 ↔ s = t := by
  rw [dist_some]
  constructor
  · exact fun h => h.1.zero
  · intro e
    rw [← e]
    exact ⟨.nil hs, fun m hm => absurd hm (Nat.not_lt_zero _)⟩
theorem IsD.pred {n : Nat} {s u : α} (h : IsD rows adj (n + 1) s u) : ∃ t, IsD rows adj n s t ∧ adj t u = true := by
  obtain ⟨t, h1, h2⟩ := h.1.succ
  refine ⟨t, ⟨h1, fun m hm k => ?_⟩, h2⟩
  exact h.2 (m + 1) (by omega) (.snoc k h.1.lst h2)
/-- a shortest walk goes to each place once -/
theorem IsD.seen {n : Nat} {s u : α} (h : IsD rows adj n s u) : ∃ l : List α, l.length = n + 1 ∧ l.Nodup ∧ (∀ x ∈ l, x ∈ rows) ∧ ∀ x ∈ l, ∃ m, m ≤ n ∧ IsD rows adj m s x := by
  induction n generalizing u with
  | zero => exact ⟨[u], rfl, by simp, fun x hx => by
      obtain rfl : x = u := by simpa using hx
      exact h.1.lst, fun x hx => by
      obtain rfl : x = u := by simpa using hx
      exact ⟨0, Nat.le_refl _, h⟩⟩
  | succ n ih =>
    obtain ⟨t, h1, _⟩ := h.pred
    obtain ⟨l, l1, l2, l3, l4⟩ := ih h1
    refine ⟨u :: l, by rw [List.length_cons, l1], List.nodup_cons.mpr ⟨fun hu => ?_, l2⟩, fun x hx => ?_, fun x hx => ?_⟩
    · obtain ⟨m, hm, hd⟩ := l4 u hu
      have := hd.uniq h
      omega
    · rcases List.mem_cons.mp hx with rfl | hx
      · exact h.1.lst
      · exact l3 x hx
    · rcases List.mem_cons.mp hx with rfl | hx
      · exact ⟨n + 1, Nat.le_refl _, h⟩
      · obtain ⟨m, hm, hd⟩ := l4 x hx
        exact ⟨m, by omega, hd⟩
theorem IsD.lt_rows {n : Nat} {s u : α} (h : IsD rows adj n s u) (_ : s ∈ rows) : n < rows.length := by
  obtain ⟨l, l1, l2, l3, _⟩ := h.seen
  have := List.Nodup.length_le_of_subset l2 l3
  omega
/-- what walks reach -/
def Rch (rows : List α) (adj : α → α → Bool) (s t : α) : Prop := ∃ n, Wk rows adj n s t
theorem rch_dist {s t : α} : Rch rows adj s t ↔ dist rows adj s t ≠ none := by
  constructor
  · rintro ⟨n, h⟩ e
    exact dist_none.mp e n h
  · intro h
    cases e : dist rows adj s t with
    | none => exact absurd e h
    | some n => exact ⟨n, (dist_some.mp e).1⟩
theorem Rch.trans {s t u : α} : Rch rows adj s t → Rch rows adj t u → Rch rows adj s u
  | ⟨_, h⟩, ⟨_, k⟩ => ⟨_, h.trans k⟩
theorem Rch.symm (sy : ∀ a b, adj a b = adj b a) {s t : α} : Rch rows adj s t → Rch rows adj t s
  | ⟨_, h⟩ => ⟨_, h.symm sy⟩
theorem Rch.step {s t u : α} (h : Rch rows adj s t) (hu : u ∈ rows) (e : adj t u = true) : Rch rows adj s u := by
  obtain ⟨n, h⟩ := h
  exact ⟨n + 1, .snoc h hu e⟩
/-- ways as lists -/
def pairsOk (adj : α → α → Bool) : List α → Bool
  | x :: y :: l => adj x y && pairsOk adj (y :: l)
  | _ => true
theorem pairs_snoc {l : List α} {x y : α} : pairsOk adj (l ++ [x, y]) = (pairsOk adj (l ++ [x]) && adj x y) := by
  induction l with
  | nil => simp [pairsOk]
  | cons a l ih =>
    cases l with
    | nil => simp [pairsOk]
    | cons b l =>
      show (adj a b && pairsOk adj (b :: l ++ [x, y])) = (adj a b && pairsOk adj (b :: l ++ [x]) && adj x y)
      rw [ih, Bool.and_assoc]
theorem path_wk : ∀ {l : List α} {s : α}, (∀ x ∈ s :: l, x ∈ rows) → pairsOk adj (s :: l) = true → ∃ t, (s :: l).getLast? = some t ∧ Wk rows adj l.length s t
  | [], s, h, _ => ⟨s, rfl, .nil (h s (by simp))⟩
  | y :: l, s, h, p => by
    have p' : (adj s y && pairsOk adj (y :: l)) = true := p
    rw [Bool.and_eq_true] at p'
    obtain ⟨t, h1, h2⟩ := path_wk (l := l) (s := y) (fun x hx => h x (List.mem_cons_of_mem _ hx)) p'.2
    refine ⟨t, by rw [List.getLast?_cons_cons]; exact h1, ?_⟩
    have e : (y :: l).length = 1 + l.length := by rw [List.length_cons]; omega
    rw [e]
    exact (Wk.one (h s (by simp)) h2.fst p'.1).trans h2
end
/-! ### breadth first -/
section
variable {α : Type} [DecidableEq α] {rows : List α} {adj : α → α → Bool}
abbrev BSt (α : Type) := List α × List (Option α) × List α
/-- a neighbor is looked at -/
def bIn (here : α) (s : BSt α) (t : α) : BSt α := if t ∈ s.1 then s else (s.1 ++ [t], s.2.1 ++ [some here], s.2.2 ++ [t])
structure Bfs (rows : List α) (adj : α → α → Bool) (s : α) (st : BSt α) (n : Nat) (A B : List α) : Prop where
  q : st.2.2 = A ++ B
  nd : st.1.Nodup
  sm : s ∈ st.1
  ln : st.1.length = st.2.1.length
  a : ∀ v ∈ A, IsD rows adj n s v ∧ v ∈ st.1
  b : ∀ v ∈ B, IsD rows adj (n + 1) s v ∧ v ∈ st.1
  lo : ∀ v m, m ≤ n → IsD rows adj m s v → v ∈ st.1
  hi : ∀ v ∈ st.1, (∃ m, m ≤ n ∧ IsD rows adj m s v) ∨ v ∈ B
  nb : ∀ v m, m ≤ n → IsD rows adj m s v → v ∉ A → ∀ u ∈ rows, adj v u = true → u ∈ st.1
  pv : ∀ (i : Nat) (k : α) (p : Option α), st.1[i]? = some k → st.2.1[i]? = some p → (k = s ∧ p = none) ∨ ∃ u m, p = some u ∧ u ∈ st.1 ∧ adj u k = true ∧ IsD rows adj m s u ∧ IsD rows adj (m + 1) s k
theorem Bfs.start {s : α} (hs : s ∈ rows) : Bfs rows adj s ([s], [none], [s]) 0 [s] [] where
  q := rfl
  nd := by simp
  sm := by simp
  ln := rfl
  a := fun v hv => by
    obtain rfl : v = s := by simpa using hv
    exact ⟨⟨.nil hs, fun m hm => absurd hm (Nat.not_lt_zero _)⟩, by simp⟩
  b := fun v hv => nomatch hv
  lo := fun v m hm h => by
    obtain rfl : m = 0 := by omega
    rw [← h.1.zero]
    simp
  hi := fun v hv => by
    obtain rfl : v = s := by simpa using hv
    exact .inl ⟨0, Nat.le_refl _, .nil hs, fun m hm => absurd hm (Nat.not_lt_zero _)⟩
  nb := fun v m hm h hv => by
    obtain rfl : m = 0 := by omega
    rw [← h.1.zero] at hv
    exact absurd (by simp) hv
  pv := fun i k p h1 h2 => by
    cases i with
    | zero => simp at h1 h2; exact .inl ⟨h1.symm, h2.symm⟩
    | succ i => simp at h1
/-- the next level -/
theorem Bfs.shift {s : α} {st : BSt α} {n : Nat} {B : List α} (h : Bfs rows adj s st n [] B) : Bfs rows adj s st (n + 1) B [] where
  q := by rw [h.q, List.append_nil, List.nil_append]
  nd := h.nd
  sm := h.sm
  ln := h.ln
  a := h.b
  b := fun v hv => nomatch hv
  lo := fun v m hm k => by
    by_cases e : m ≤ n
    · exact h.lo v m e k
    · obtain rfl : m = n + 1 := by omega
      obtain ⟨t, h1, h2⟩ := k.pred
      exact h.nb t n (Nat.le_refl _) h1 (fun z => nomatch z) v k.1.lst h2
  hi := fun v hv => by
    rcases h.hi v hv with ⟨m, hm, k⟩ | hb
    · exact .inl ⟨m, by omega, k⟩
    · exact .inl ⟨n + 1, Nat.le_refl _, (h.b v hb).1⟩
  nb := fun v m hm k hv u hu e => by
    by_cases e2 : m ≤ n
    · exact h.nb v m e2 k (fun z => nomatch z) u hu e
    · obtain rfl : m = n + 1 := by omega
      have hvk : v ∈ st.1 := by
        obtain ⟨t, h1, h2⟩ := k.pred
        exact h.nb t n (Nat.le_refl _) h1 (fun z => nomatch z) v k.1.lst h2
      rcases h.hi v hvk with ⟨m, hm, k2⟩ | hb
      · have := k.uniq k2
        omega
      · exact absurd hb hv
  pv := h.pv
/-- one neighbor of the stance that is looked at -/
theorem Bfs.look {s here t : α} {st : BSt α} {n : Nat} {A B : List α} (h : Bfs rows adj s st n A B) (hh : IsD rows adj n s here ∧ here ∈ st.1) (ht : t ∈ rows) (e : adj here t = true) : ∃ B', Bfs rows adj s (bIn here st t) n A B' ∧ (∀ v ∈ st.1, v ∈ (bIn here st t).1) ∧ t ∈ (bIn here st t).1 := by
  unfold bIn
  by_cases q : t ∈ st.1
  · rw [if_pos q]
    exact ⟨B, h, fun _ h => h, q⟩
  · rw [if_neg q]
    have hd : IsD rows adj (n + 1) s t := by
      obtain ⟨m, hm, hd⟩ := isD_ex (Wk.snoc hh.1.1 ht e)
      by_cases e2 : m ≤ n
      · exact absurd (h.lo t m e2 hd) q
      · obtain rfl : m = n + 1 := by omega
        exact hd
    refine ⟨B ++ [t], ⟨by show st.2.2 ++ [t] = _; rw [h.q, List.append_assoc], ?_, List.mem_append_left _ h.sm, by show (st.1 ++ [t]).length = (st.2.1 ++ [some here]).length; rw [List.length_append, List.length_append, h.ln, List.length_singleton, List.length_singleton], fun v hv => ⟨(h.a v hv).1, List.mem_append_left _ (h.a v hv).2⟩, fun v hv => ?_, fun v m hm k => List.mem_append_left _ (h.lo v m hm k), fun v hv => ?_, fun v m hm k hv u hu e => List.mem_append_left _ (h.nb v m hm k hv u hu e), fun i k p h1 h2 => ?_⟩, fun v hv => List.mem_append_left _ hv, List.mem_append_right _ (by simp)⟩
    · exact List.nodup_append.mpr ⟨h.nd, by simp, fun a ha b hb e3 => by
        obtain rfl : b = t := by simpa using hb
        exact q (by rw [← e3]; exact ha)⟩
    · rcases List.mem_append.mp hv with hv | hv
      · exact ⟨(h.b v hv).1, List.mem_append_left _ (h.b v hv).2⟩
      · obtain rfl : v = t := by simpa using hv
        exact ⟨hd, List.mem_append_right _ (by simp)⟩
    · rcases List.mem_append.mp hv with hv | hv
      · rcases h.hi v hv with z | z
        · exact .inl z
        · exact .inr (List.mem_append_left _ z)
      · exact .inr (List.mem_append_right _ hv)
    · have hl := h.ln
      by_cases hi : i < st.1.length
      · rw [List.getElem?_append_left hi] at h1
        rw [List.getElem?_append_left (by omega)] at h2
        rcases h.pv i k p h1 h2 with z | ⟨u, m, z1, z2, z3⟩
        · exact .inl z
        · exact .inr ⟨u, m, z1, List.mem_append_left _ z2, z3⟩
      · rw [List.getElem?_append_right (by omega)] at h1 h2
        have i0 : i - st.1.length = 0 := by
          by_cases z : i - st.1.length = 0
          · exact z
          · rw [List.getElem?_eq_none (by rw [List.length_singleton]; omega)] at h1
            cases h1
        rw [i0] at h1
        rw [show i - st.2.1.length = 0 by omega] at h2
        obtain rfl : t = k := by simpa using h1
        obtain rfl : some here = p := by simpa using h2
        exact .inr ⟨here, n, rfl, List.mem_append_left _ hh.2, e, hh.1, hd⟩
theorem Bfs.looks {s here : α} {n : Nat} {A : List α} : ∀ {ts : List α} {st : BSt α} {B : List α}, Bfs rows adj s st n A B → IsD rows adj n s here ∧ here ∈ st.1 → (∀ t ∈ ts, t ∈ rows ∧ adj here t = true) →
    ∃ B', Bfs rows adj s (ts.foldl (bIn here) st) n A B' ∧ (∀ v ∈ st.1, v ∈ (ts.foldl (bIn here) st).1) ∧ ∀ t ∈ ts, t ∈ (ts.foldl (bIn here) st).1
  | [], st, B, h, _, _ => ⟨B, h, fun _ h => h, fun _ h => nomatch h⟩
  | t :: ts, st, B, h, hh, ht => by
    obtain ⟨B1, h1, h2, h3⟩ := h.look hh (ht t List.mem_cons_self).1 (ht t List.mem_cons_self).2
    obtain ⟨B2, h4, h5, h6⟩ := Bfs.looks (ts := ts) h1 ⟨hh.1, h2 _ hh.2⟩ fun u hu => ht u (List.mem_cons_of_mem _ hu)
    exact ⟨B2, h4, fun v hv => h5 v (h2 v hv), fun u hu => by
      rcases List.mem_cons.mp hu with rfl | hu
      · exact h5 _ h3
      · exact h6 u hu⟩
/-- the stance that was looked at is done -/
theorem Bfs.pop {s here : α} {st : BSt α} {n : Nat} {A B : List α} (h : Bfs rows adj s st n (here :: A) B) (k : ∀ u ∈ rows, adj here u = true → u ∈ st.1) (r : BSt α) (hr : r = (st.1, st.2.1, A ++ B)) : Bfs rows adj s r n A B := by
  subst hr
  exact ⟨rfl, h.nd, h.sm, h.ln, fun v hv => h.a v (List.mem_cons_of_mem _ hv), h.b, h.lo, h.hi, fun v m hm d hv u hu e => by
    by_cases z : v = here
    · rw [z] at e
      exact k u hu e
    · exact h.nb v m hm d (fun z2 => by
        rcases List.mem_cons.mp z2 with z3 | z3
        · exact z z3
        · exact hv z3) u hu e, h.pv⟩
/-- a dict of all that can be reached, with what came before -/
structure BDone (rows : List α) (adj : α → α → Bool) (s : α) (ks : List α) (ps : List (Option α)) : Prop where
  nd : ks.Nodup
  sm : s ∈ ks
  ln : ks.length = ps.length
  mem : ∀ v, v ∈ ks ↔ Rch rows adj s v
  pv : ∀ (i : Nat) (k : α) (p : Option α), ks[i]? = some k → ps[i]? = some p → (k = s ∧ p = none) ∨ ∃ u m, p = some u ∧ u ∈ ks ∧ adj u k = true ∧ IsD rows adj m s u ∧ IsD rows adj (m + 1) s k
theorem Bfs.done {s : α} {st : BSt α} {n : Nat} {A B : List α} (h : Bfs rows adj s st n A B) (e : st.2.2 = []) : BDone rows adj s st.1 st.2.1 := by
  have q := h.q
  rw [e] at q
  obtain ⟨rfl, rfl⟩ : A = [] ∧ B = [] := by
    have := q.symm
    simpa using this
  have all : ∀ m v, IsD rows adj m s v → m ≤ n := by
    intro m
    induction m with
    | zero => exact fun _ _ => Nat.zero_le _
    | succ m ih =>
      intro v hv
      obtain ⟨t, h1, h2⟩ := hv.pred
      have hm := ih t h1
      have := h.nb t m hm h1 (fun z => nomatch z) v hv.1.lst h2
      rcases h.hi v this with ⟨m', hm', k⟩ | z
      · have := hv.uniq k
        omega
      · cases z
  refine ⟨h.nd, h.sm, h.ln, fun v => ⟨fun hv => ?_, fun ⟨m, hw⟩ => ?_⟩, h.pv⟩
  · rcases h.hi v hv with ⟨m, _, k⟩ | z
    · exact ⟨m, k.1⟩
    · cases z
  · obtain ⟨m', _, hd⟩ := isD_ex hw
    exact h.lo v m' (all m' v hd) hd
/-- one turn of the loop: the first of the queue is looked at -/
def bTurn (nbs : α → List α) (st : BSt α) : BSt α := match st.2.2 with
  | [] => st
  | here :: w => (nbs here).foldl (bIn here) (st.1, st.2.1, w)
theorem fold_q {here : α} : ∀ (ts : List α) (ks : List α) (ps : List (Option α)) (w w2 : List α), ts.foldl (bIn here) (ks, ps, w ++ w2) = ((ts.foldl (bIn here) (ks, ps, w2)).1, (ts.foldl (bIn here) (ks, ps, w2)).2.1, w ++ (ts.foldl (bIn here) (ks, ps, w2)).2.2)
  | [], ks, ps, w, w2 => rfl
  | t :: ts, ks, ps, w, w2 => by
    rw [List.foldl_cons, List.foldl_cons]
    by_cases q : t ∈ ks
    · have e1 : bIn here (ks, ps, w ++ w2) t = (ks, ps, w ++ w2) := if_pos q
      have e2 : bIn here (ks, ps, w2) t = (ks, ps, w2) := if_pos q
      rw [e1, e2]
      exact fold_q ts ks ps w w2
    · have e1 : bIn here (ks, ps, w ++ w2) t = (ks ++ [t], ps ++ [some here], w ++ (w2 ++ [t])) := by
        rw [← List.append_assoc]
        exact if_neg q
      have e2 : bIn here (ks, ps, w2) t = (ks ++ [t], ps ++ [some here], w2 ++ [t]) := if_neg q
      rw [e1, e2]
      exact fold_q ts _ _ w _
theorem fold_len {here : α} : ∀ (ts : List α) (st : BSt α), (ts.foldl (bIn here) st).1.length + st.2.2.length = (ts.foldl (bIn here) st).2.2.length + st.1.length
  | [], st => by simp only [List.foldl_nil]; omega
  | t :: ts, st => by
    rw [List.foldl_cons]
    have ih := fold_len (here := here) ts (bIn here st t)
    by_cases q : t ∈ st.1
    · have e1 : bIn here st t = st := if_pos q
      rw [e1] at ih ⊢
      exact ih
    · have e1 : bIn here st t = (st.1 ++ [t], st.2.1 ++ [some here], st.2.2 ++ [t]) := if_neg q
      rw [e1] at ih ⊢
      simp only [List.length_append, List.length_singleton] at ih
      omega
/-- the loop's invariant, and what falls -/
def BInv (rows : List α) (adj : α → α → Bool) (s : α) (st : BSt α) : Prop := ∃ n A B, Bfs rows adj s st n A B
theorem BInv.turn {s : α} {nbs : α → List α} (hn : ∀ v ∈ rows, ∀ t, t ∈ nbs v ↔ t ∈ rows ∧ adj v t = true) {st : BSt α} (h : BInv rows adj s st) (ne : st.2.2 ≠ []) : BInv rows adj s (bTurn nbs st) := by
  have go : ∀ n here A B, Bfs rows adj s st n (here :: A) B → BInv rows adj s (bTurn nbs st) := by
    intro n here A B h
    have hh := h.a here (by simp)
    have hr : here ∈ rows := hh.1.1.lst
    obtain ⟨B', h1, h2, h3⟩ := h.looks (ts := nbs here) hh fun t ht => (hn here hr t).mp ht
    have e : bTurn nbs st = (nbs here).foldl (bIn here) (st.1, st.2.1, A ++ B) := by
      unfold bTurn
      rw [h.q]
      rfl
    rw [e]
    have fq := fold_q (here := here) (nbs here) st.1 st.2.1 [here] (A ++ B)
    have est : st = (st.1, st.2.1, [here] ++ (A ++ B)) := by
      have := h.q
      show st = (st.1, st.2.1, here :: A ++ B)
      rw [← this]
    rw [est, fq] at h1
    rw [est, fq] at h3
    have q1 := h1.q
    refine ⟨n, A, B', h1.pop (fun u hu e => h3 u ((hn here hr u).mpr ⟨hu, e⟩)) _ ?_⟩
    have q2 : ((nbs here).foldl (bIn here) (st.1, st.2.1, A ++ B)).2.2 = A ++ B' := by
      have q1 : here :: ((nbs here).foldl (bIn here) (st.1, st.2.1, A ++ B)).2.2 = here :: (A ++ B') := q1
      injection q1
    exact Prod.ext rfl (Prod.ext rfl q2)
  obtain ⟨n, A, B, h⟩ := h
  cases A with
  | cons here A => exact go n here A B h
  | nil =>
    cases B with
    | nil => exact absurd (by rw [h.q]; rfl) ne
    | cons here B => exact go (n + 1) here B [] h.shift
theorem nodup_leG : ∀ {ks rows : List α}, ks.Nodup → (∀ k ∈ ks, k ∈ rows) → ks.length ≤ rows.length
  | [], _, _, _ => Nat.zero_le _
  | k :: ks, rows, nd, h => by
    obtain ⟨h1, h2⟩ := List.nodup_cons.mp nd
    have hm := h k List.mem_cons_self
    have := nodup_leG (ks := ks) (rows := rows.erase k) h2 fun x hx => by
      have hne : x ≠ k := fun z => h1 (by rw [← z]; exact hx)
      exact (List.mem_erase_of_ne hne).mpr (h x (List.mem_cons_of_mem _ hx))
    rw [List.length_erase_of_mem hm] at this
    have hp : 0 < rows.length := List.length_pos_of_mem hm
    rw [List.length_cons]
    omega
theorem BInv.inR {s : α} {st : BSt α} (h : BInv rows adj s st) : st.1.Nodup ∧ (∀ k ∈ st.1, k ∈ rows) ∧ st.1.length = st.2.1.length ∧ ∀ k ∈ st.2.2, k ∈ rows := by
  obtain ⟨n, A, B, h⟩ := h
  have h1 : ∀ k ∈ st.1, k ∈ rows := fun k hk => by
    rcases h.hi k hk with ⟨m, _, d⟩ | hb
    · exact d.1.lst
    · exact (h.b k hb).1.1.lst
  refine ⟨h.nd, h1, h.ln, fun k hk => ?_⟩
  rw [h.q] at hk
  rcases List.mem_append.mp hk with hk | hk
  · exact h1 _ (h.a k hk).2
  · exact h1 _ (h.b k hk).2
end
end WL

set_option maxRecDepth 100000
set_option maxHeartbeats 1000000
namespace WL
open PySem PySem.Spec PyProof.Rows L2
/-! ### rows of ints, ascending -/
theorem lt_app : ∀ {a b : List Int} (c d : List Int), a.length = b.length → a < b → a ++ c < b ++ d
  | [], [], _, _, _, h => absurd h (List.lt_irrefl _)
  | [], _ :: _, _, _, h, _ => by cases h
  | _ :: _, [], _, _, h, _ => by cases h
  | x :: a, y :: b, c, d, hl, h => by
    rw [List.cons_append, List.cons_append, List.cons_lt_cons_iff]
    rw [List.cons_lt_cons_iff] at h
    rcases h with h | ⟨h1, h2⟩
    · exact .inl h
    · exact .inr ⟨h1, lt_app c d (by simpa using hl) h2⟩
theorem app_lt : ∀ (a : List Int) {c d : List Int}, c < d → a ++ c < a ++ d
  | [], _, _, h => h
  | x :: a, c, d, h => by
    rw [List.cons_append, List.cons_append, List.cons_lt_cons_iff]
    exact .inr ⟨rfl, app_lt a h⟩
theorem asc_nodup {l : List (List Int)} (h : l.Pairwise (· < ·)) : l.Nodup := h.imp fun {a b} hab e => by
  rw [e] at hab
  exact List.lt_irrefl _ hab
theorem asc_flat (n : Nat) {m : Nat} : ∀ {l : List (List Int)}, (∀ a ∈ l, a.length = m) → l.Pairwise (· < ·) → (l.flatMap fun row => (List.range n).map fun (i : Nat) => row ++ [(i : Int)]).Pairwise (· < ·)
  | [], _, _ => by simp
  | a :: l, hl, h => by
    rw [List.pairwise_cons] at h
    rw [List.flatMap_cons, List.pairwise_append]
    refine ⟨?_, asc_flat n (fun b hb => hl b (List.mem_cons_of_mem _ hb)) h.2, fun x hx y hy => ?_⟩
    · rw [List.pairwise_map]
      refine List.pairwise_lt_range.imp fun {i j} hij => app_lt a ?_
      rw [List.cons_lt_cons_iff]
      exact .inl (by omega)
    · obtain ⟨i, _, rfl⟩ := List.mem_map.mp hx
      obtain ⟨b, hb, hy⟩ := List.mem_flatMap.mp hy
      obtain ⟨j, _, rfl⟩ := List.mem_map.mp hy
      exact lt_app _ _ (by rw [hl a List.mem_cons_self, hl b (List.mem_cons_of_mem _ hb)]) (h.1 b hb)
theorem sort_rows {l l' : List (List Int)} (h : l'.Pairwise (· < ·)) (nd : l.Nodup) (e : ∀ x, x ∈ l ↔ x ∈ l') : l.mergeSort (fun a b => decide (a ≤ b)) = l' := by
  have p : (l.mergeSort (fun a b => decide (a ≤ b))).Pairwise (fun a b => (decide (a ≤ b)) = true) := List.pairwise_mergeSort (fun a b c h1 h2 => by
    simp only [decide_eq_true_eq] at *
    exact List.le_trans h1 h2) (fun a b => by
    simp only [Bool.or_eq_true, decide_eq_true_eq]
    exact List.le_total a b) l
  refine List.Perm.eq_of_pairwise (le := fun a b => a ≤ b) (fun a b _ _ h1 h2 => List.le_antisymm h1 h2) (p.imp fun {a b} h => of_decide_eq_true h) (h.imp fun {a b} h => List.le_of_lt h) ?_
  exact (List.mergeSort_perm l _).trans ((List.perm_ext_iff_of_nodup nd (asc_nodup h)).mpr fun x => e x)
/-! ### stances that differ in one limb -/
def adj1 (s t : List Int) : Bool := decide (((s.zip t).filter fun p => !decide (p.1 = p.2)).length = 1)
theorem adj1_symm : ∀ s t : List Int, adj1 s t = adj1 t s := by
  have go : ∀ s t : List Int, ((s.zip t).filter fun p => !decide (p.1 = p.2)).length = ((t.zip s).filter fun p => !decide (p.1 = p.2)).length := by
    intro s
    induction s with
    | nil => intro t; simp
    | cons a s ih =>
      intro t
      cases t with
      | nil => simp
      | cons b t =>
        simp only [List.zip_cons_cons, List.filter_cons]
        by_cases h : a = b
        · simp [h, ih t]
        · have h' : ¬ b = a := fun e => h e.symm
          simp [h, h', ih t]
  intro s t
  unfold adj1
  rw [go]
theorem adj1_irr (s : List Int) : adj1 s s = false := by
  have : ((s.zip s).filter fun p => !decide (p.1 = p.2)) = [] := by
    induction s with
    | nil => rfl
    | cons a s ih => simp [ih]
  unfold adj1
  rw [this]
  rfl
/-- the stances with a limb on another hold -/
def nx1 (n : Nat) (s : List Int) (limb : Nat) : List (List Int) := (((List.range n).map fun (i : Nat) => (i : Int)).filter fun h => !decide (h = s.getD limb 0)).map fun h => s.set limb h
theorem mem_nx1 {n : Nat} {s t : List Int} {limb : Nat} : t ∈ nx1 n s limb ↔ ∃ h : Int, 0 ≤ h ∧ h < n ∧ h ≠ s.getD limb 0 ∧ t = s.set limb h := by
  unfold nx1
  constructor
  · intro h
    obtain ⟨x, hx, rfl⟩ := List.mem_map.mp h
    obtain ⟨h1, h2⟩ := List.mem_filter.mp hx
    obtain ⟨i, hi, rfl⟩ := List.mem_map.mp h1
    have := List.mem_range.mp hi
    exact ⟨i, by omega, by omega, by simpa using h2, rfl⟩
  · rintro ⟨h, h0, h1, h2, rfl⟩
    refine List.mem_map.mpr ⟨h, List.mem_filter.mpr ⟨List.mem_map.mpr ⟨h.toNat, List.mem_range.mpr (by omega), by omega⟩, by simpa using h2⟩, rfl⟩
theorem nodup_map {α β : Type} {f : α → β} : ∀ {l : List α}, (∀ a ∈ l, ∀ b ∈ l, f a = f b → a = b) → l.Nodup → (l.map f).Nodup
  | [], _, _ => by simp
  | a :: l, h, nd => by
    obtain ⟨h1, h2⟩ := List.nodup_cons.mp nd
    rw [List.map_cons, List.nodup_cons]
    refine ⟨fun hm => ?_, nodup_map (fun x hx y hy => h x (List.mem_cons_of_mem _ hx) y (List.mem_cons_of_mem _ hy)) h2⟩
    obtain ⟨b, hb, e⟩ := List.mem_map.mp hm
    rw [h a List.mem_cons_self b (List.mem_cons_of_mem _ hb) e.symm] at h1
    exact h1 hb
theorem ints_nodup (n : Nat) : ((List.range n).map fun (i : Nat) => (i : Int)).Nodup := nodup_map (fun a _ b _ e => by omega) List.nodup_range
theorem nx1_nodup {n : Nat} {i j k l : Int} {limb : Nat} (hl : limb < 4) : (nx1 n [i, j, k, l] limb).Nodup := by
  unfold nx1
  refine nodup_map (fun a _ b _ e => ?_) ((ints_nodup n).filter _)
  match limb, hl with
  | 0, _ => simpa using e
  | 1, _ => simpa using e
  | 2, _ => simpa using e
  | 3, _ => simpa using e
/-- .. of all four limbs -/
def nxs (n : Nat) (s : List Int) : List (List Int) := (List.range 4).flatMap (nx1 n s)
theorem adj1_4 {i j k l i' j' k' l' : Int} : adj1 [i, j, k, l] [i', j', k', l'] = true ↔ (i ≠ i' ∧ j = j' ∧ k = k' ∧ l = l') ∨ (i = i' ∧ j ≠ j' ∧ k = k' ∧ l = l') ∨ (i = i' ∧ j = j' ∧ k ≠ k' ∧ l = l') ∨ (i = i' ∧ j = j' ∧ k = k' ∧ l ≠ l') := by
  unfold adj1
  simp only [List.zip_cons_cons, List.zip_nil_right, List.filter_cons, List.filter_nil, decide_eq_true_eq]
  by_cases h1 : i = i' <;> by_cases h2 : j = j' <;> by_cases h3 : k = k' <;> by_cases h4 : l = l' <;> simp [h1, h2, h3, h4]
theorem mem_nxs {n : Nat} {i j k l : Int} {t : List Int} (hs : ∀ x ∈ [i, j, k, l], 0 ≤ x ∧ x < (n : Int)) : t ∈ nxs n [i, j, k, l] ↔ (t.length = 4 ∧ (∀ x ∈ t, 0 ≤ x ∧ x < (n : Int)) ∧ adj1 [i, j, k, l] t = true) := by
  have r4 : List.range 4 = [0, 1, 2, 3] := rfl
  simp only [List.mem_cons, List.not_mem_nil, or_false, forall_eq_or_imp, forall_eq] at hs
  unfold nxs
  rw [r4]
  simp only [List.mem_flatMap, List.mem_cons, List.not_mem_nil, or_false, exists_eq_or_imp, exists_eq_left, mem_nx1]
  constructor
  · rintro (⟨h, h0, h1, h2, rfl⟩ | ⟨h, h0, h1, h2, rfl⟩ | ⟨h, h0, h1, h2, rfl⟩ | ⟨h, h0, h1, h2, rfl⟩) <;>
    · simp only [List.getD_cons_zero, List.getD_cons_succ] at h2
      simp only [List.set_cons_zero, List.set_cons_succ]
      refine ⟨rfl, ?_, ?_⟩
      · simp only [List.mem_cons, List.not_mem_nil, or_false, forall_eq_or_imp, forall_eq]
        omega
      · rw [adj1_4]
        omega
  · rintro ⟨h1, h2, h3⟩
    match t, h1 with
    | [i', j', k', l'], _ =>
      simp only [List.mem_cons, List.not_mem_nil, or_false, forall_eq_or_imp, forall_eq] at h2
      rw [adj1_4] at h3
      rcases h3 with ⟨g1, rfl, rfl, rfl⟩ | ⟨rfl, g1, rfl, rfl⟩ | ⟨rfl, rfl, g1, rfl⟩ | ⟨rfl, rfl, rfl, g1⟩
      · exact .inl ⟨i', by omega, by omega, fun e => g1 e.symm, rfl⟩
      · exact .inr (.inl ⟨j', by omega, by omega, fun e => g1 e.symm, rfl⟩)
      · exact .inr (.inr (.inl ⟨k', by omega, by omega, fun e => g1 e.symm, rfl⟩))
      · exact .inr (.inr (.inr ⟨l', by omega, by omega, fun e => g1 e.symm, rfl⟩))
theorem nxs_nodup {n : Nat} {i j k l : Int} : (nxs n [i, j, k, l]).Nodup := by
  have r4 : List.range 4 = [0, 1, 2, 3] := rfl
  have dj : ∀ a b : Nat, a < 4 → b < 4 → a ≠ b → ∀ x ∈ nx1 n [i, j, k, l] a, ∀ y ∈ nx1 n [i, j, k, l] b, x ≠ y := by
    intro a b ha hb ne x hx y hy e
    obtain ⟨h, _, _, h2, rfl⟩ := mem_nx1.mp hx
    obtain ⟨g, _, _, g2, e2⟩ := mem_nx1.mp hy
    rw [e2] at e
    have e3 := congrArg (fun l => l.getD a 0) e
    simp only [List.getD_eq_getElem?_getD] at e3 h2
    rw [List.getElem?_set_self (by simpa using ha), List.getElem?_set_ne (Ne.symm ne)] at e3
    exact h2 e3
  unfold nxs
  rw [r4]
  simp only [List.flatMap_cons, List.flatMap_nil, List.append_nil]
  rw [List.nodup_append, List.nodup_append, List.nodup_append]
  have n0 := nx1_nodup (n := n) (i := i) (j := j) (k := k) (l := l) (limb := 0) (by decide)
  have n1 := nx1_nodup (n := n) (i := i) (j := j) (k := k) (l := l) (limb := 1) (by decide)
  have n2 := nx1_nodup (n := n) (i := i) (j := j) (k := k) (l := l) (limb := 2) (by decide)
  have n3 := nx1_nodup (n := n) (i := i) (j := j) (k := k) (l := l) (limb := 3) (by decide)
  refine ⟨n0, ⟨n1, ⟨n2, n3, dj 2 3 (by decide) (by decide) (by decide)⟩, fun x hx y hy => ?_⟩, fun x hx y hy => ?_⟩
  · rcases List.mem_append.mp hy with hy | hy
    · exact dj 1 2 (by decide) (by decide) (by decide) x hx y hy
    · exact dj 1 3 (by decide) (by decide) (by decide) x hx y hy
  · rcases List.mem_append.mp hy with hy | hy
    · exact dj 0 1 (by decide) (by decide) (by decide) x hx y hy
    · rcases List.mem_append.mp hy with hy | hy
      · exact dj 0 2 (by decide) (by decide) (by decide) x hx y hy
      · exact dj 0 3 (by decide) (by decide) (by decide) x hx y hy

/-! ### sorted rows -/
theorem dataLe_tups {β : Type} (x : β → List Int) : PySem.W.dataLe false (fun b => .tuple ((x b).map .int)) = fun p q => decide (x p ≤ x q) := by
  funext p q
  show (!PySem.W.dataLt (.tuple ((x q).map .int)) (.tuple ((x p).map .int))) = _
  rw [PySem.W.dataLt_tuple]
  show (!PySem.W.rowLt ((x q).map .int) ((x p).map .int)) = _
  rw [PySem.W.dataLt_ints]
  by_cases h : x q < x p
  · have h' : ¬ x p ≤ x q := fun r => List.not_lt.mpr r h
    simp [h, h']
  · have h' : x p ≤ x q := List.not_lt.mp h
    simp [h, h']
theorem srt_eS (l : List (List Int)) : srtD (l.map eS) = (l.mergeSort fun a b => decide (a ≤ b)).map eS := by
  have e := dataLe_tups (fun b : List Int => b)
  refine (List.map_mergeSort (r := fun a b => decide (a ≤ b)) (s := PySem.W.dataLe false id) (f := eS) (l := l) fun a _ b _ => ?_).symm
  exact (congrFun (congrFun e a) b).symm
theorem srt_is {l l' : List (List Int)} (h : l'.Pairwise (· < ·)) (nd : l.Nodup) (e : ∀ x, x ∈ l ↔ x ∈ l') : srtD (l.map eS) = l'.map eS := by rw [srt_eS, sort_rows h nd e]
theorem alike_eS (l : List (List Int)) : PySem.W.AllAlike (l.map eS) := PySem.W.AllAlike.of fun b b' => by
  unfold eS
  rw [PySem.W.alike]
  exact PySem.W.alike_ints b b'
theorem sortable_eS {l : List (List Int)} (h : ∀ s ∈ l, s ≠ []) : PySem.W.Sortable (l.map eS) := .inl fun d hd => by
  obtain ⟨s, hs, rfl⟩ := List.mem_map.mp hd
  cases s with
  | nil => exact absurd rfl (h _ hs)
  | cons i s => exact ⟨_, _, rfl⟩
/-! ### good stances as a graph -/
theorem rows_asc (n : Nat) : ∀ k, (rowsN n k).Pairwise (· < ·)
  | 0 => by simp [rowsN]
  | k + 1 => asc_flat n (fun a ha => rowsN_len a ha) (rows_asc n k)
theorem good_asc (r : List Hold) (b : Body) : (goodS r b).Pairwise (· < ·) := (rows_asc r.length 4).filter _
theorem good_nodup (r : List Hold) (b : Body) : (goodS r b).Nodup := asc_nodup (good_asc r b)
theorem good_len (r : List Hold) (b : Body) (h : r.length ≤ 7) : (goodS r b).length ≤ 2401 := by
  refine Nat.le_trans (List.length_filter_le _ _) ?_
  rw [rowsN_count]
  exact Nat.pow_le_pow_left h 4
theorem mem_good {r : List Hold} {b : Body} {s : List Int} : s ∈ goodS r b ↔ s.length = 4 ∧ (∀ i ∈ s, 0 ≤ i ∧ i < (r.length : Int)) ∧ keptL r b s = true := by
  constructor
  · intro h
    obtain ⟨h1, h2⟩ := List.mem_filter.mp h
    exact ⟨rowsN_len s h1, rowsN_rng s h1, h2⟩
  · rintro ⟨h1, h2, h3⟩
    exact List.mem_filter.mpr ⟨mem_rows h1 h2, h3⟩
def nbr (r : List Hold) (b : Body) (s : List Int) : List (List Int) := (goodS r b).filter (adj1 s)
theorem mem_nbr {r : List Hold} {b : Body} {s t : List Int} : t ∈ nbr r b s ↔ t ∈ goodS r b ∧ adj1 s t = true := List.mem_filter
theorem nbr_asc (r : List Hold) (b : Body) (s : List Int) : (nbr r b s).Pairwise (· < ·) := (good_asc r b).filter _
theorem srt_nbr {r : List Hold} {b : Body} {s : List Int} (hs : s ∈ goodS r b) : srtD (((nxs r.length s).filter (keptL r b)).map eS) = (nbr r b s).map eS := by
  obtain ⟨h1, h2, _⟩ := mem_good.mp hs
  match s, h1, h2 with
  | [i, j, k, l], _, h2 =>
    refine srt_is (nbr_asc _ _ _) (nxs_nodup.filter _) fun t => ?_
    rw [List.mem_filter, mem_nxs h2, mem_nbr, mem_good]
    constructor
    · rintro ⟨⟨a, b, c⟩, d⟩
      exact ⟨⟨a, b, d⟩, c⟩
    · rintro ⟨⟨a, b, d⟩, c⟩
      exact ⟨⟨a, b, c⟩, d⟩
noncomputable abbrev gd (r : List Hold) (b : Body) (s t : List Int) : Option Nat := dist (goodS r b) adj1 s t
/-- what can be reached, ascending -/
noncomputable def comp (r : List Hold) (b : Body) (s : List Int) : List (List Int) := (goodS r b).filter fun t => (gd r b s t).isSome
theorem mem_comp {r : List Hold} {b : Body} {s t : List Int} : t ∈ comp r b s ↔ Rch (goodS r b) adj1 s t := by
  unfold comp
  rw [List.mem_filter, rch_dist, Option.isSome_iff_ne_none]
  constructor
  · exact fun h => h.2
  · intro h
    refine ⟨?_, h⟩
    obtain ⟨n, hw⟩ := rch_dist.mpr h
    exact hw.lst
theorem comp_asc (r : List Hold) (b : Body) (s : List Int) : (comp r b s).Pairwise (· < ·) := (good_asc r b).filter _
theorem srt_done {r : List Hold} {b : Body} {s : List Int} {ks : List (List Int)} {ps : List (Option (List Int))} (h : BDone (goodS r b) adj1 s ks ps) : srtD (ks.map eS) = (comp r b s).map eS := srt_is (comp_asc r b s) h.nd fun x => (h.mem x).trans mem_comp.symm
theorem q_dict1S {Q : AV → Prop} {s : List Int} {p : PyData} (h : Q (.f (.dct [s] [p]))) : dict1v Q (.c (.p (eS s))) (.c (.p p)) := r_dict1v (keyD_ints s) h
theorem hasK_dec (ks : List (List Int)) (k : List Int) : hasK ks k = decide (k ∈ ks) := by
  unfold hasK
  rw [Bool.eq_iff_iff, List.any_eq_true, decide_eq_true_eq]
  constructor
  · rintro ⟨x, h1, h2⟩
    rw [← of_decide_eq_true h2]
    exact h1
  · exact fun h => ⟨k, h, decide_eq_true rfl⟩
end WL

set_option maxRecDepth 100000
set_option maxHeartbeats 1000000
namespace WL
open PySem PySem.Spec PyProof.Rows L2
/-! ### what the program's functions promise: ways, tops -/
def eO : Option (List Int) → PyData
  | none => .none
  | some s => eS s
def eN : Option Nat → PyData
  | none => .none
  | some n => .int n
def eW : Option (List (List Int)) → PyData
  | none => .none
  | some l => .tuple (l.map eS)
theorem eO_none : eO none = .none := rfl
theorem eO_some {s : List Int} : eO (some s) = eS s := rfl
theorem eN_none : eN none = .none := rfl
theorem eN_some {n : Nat} : eN (some n) = .int n := rfl
theorem eW_none : eW none = .none := rfl
theorem eW_some {l : List (List Int)} : eW (some l) = .tuple (l.map eS) := rfl
/-- arguments that are checked, one after another -/
def CkB (ec : Str → Addr) (u v : PyData) (E : Value → Prop) (k : List Hold → Body → Prop) : Prop := if rockOk u = true then (if bodyOk v = true then ∀ r b, u = eR r → v = eB b → RockOk r → BodyOk b → k r b else E (.ref (ec "InvalidBody"))) else E (.ref (ec "InvalidRock"))
def CkS (ec : Str → Addr) (r : List Hold) (b : Body) (x : PyData) (E : Value → Prop) (k : List Int → Prop) : Prop := if goodOne r b x = true then ∀ s, x = eS s → s ∈ goodS r b → k s else E (.ref (ec "InvalidStance"))
def CkH (ec : Str → Addr) (r : List Hold) (x : PyData) (E : Value → Prop) (k : Int → Prop) : Prop := if btw x 0 (r.length - 1) = true then ∀ i, x = .int i → InR r i → k i else E (.ref (ec "InvalidHold"))
theorem ckB_mono {ec : Str → Addr} {u v : PyData} {E : Value → Prop} {k k' : List Hold → Body → Prop} (h : CkB ec u v E k) (m : ∀ r b, u = eR r → v = eB b → RockOk r → BodyOk b → k r b → k' r b) : CkB ec u v E k' := by
  unfold CkB at h ⊢
  split
  · rename_i h1
    rw [if_pos h1] at h
    split
    · rename_i h2
      rw [if_pos h2] at h
      exact fun r b e1 e2 hr hb => m r b e1 e2 hr hb (h r b e1 e2 hr hb)
    · rename_i h2
      rw [if_neg h2] at h
      exact h
  · rename_i h1
    rw [if_neg h1] at h
    exact h
theorem ckS_mono {ec : Str → Addr} {r : List Hold} {b : Body} {x : PyData} {E : Value → Prop} {k k' : List Int → Prop} (h : CkS ec r b x E k) (m : ∀ s, x = eS s → s ∈ goodS r b → k s → k' s) : CkS ec r b x E k' := by
  unfold CkS at h ⊢
  split
  · rename_i h1
    rw [if_pos h1] at h
    exact fun s e hs => m s e hs (h s e hs)
  · rename_i h1
    rw [if_neg h1] at h
    exact h
theorem ckH_mono {ec : Str → Addr} {r : List Hold} {x : PyData} {E : Value → Prop} {k k' : Int → Prop} (h : CkH ec r x E k) (m : ∀ i, x = .int i → InR r i → k i → k' i) : CkH ec r x E k' := by
  unfold CkH at h ⊢
  split
  · rename_i h1
    rw [if_pos h1] at h
    exact fun s e hs => m s e hs (h s e hs)
  · rename_i h1
    rw [if_neg h1] at h
    exact h
theorem eS_inj {a b : List Int} (h : eS a = eS b) : a = b := by
  unfold eS at h
  injection h with h
  exact map_inj (fun _ _ e => by injection e) h
theorem use_ckB {ec : Str → Addr} {r : List Hold} {b : Body} {E : Value → Prop} {k : List Hold → Body → Prop} (hr : RockOk r) (hb : BodyOk b) (h : k r b) : CkB ec (eR r) (eB b) E k := by
  unfold CkB
  rw [if_pos (rockOk_eR hr), if_pos (bodyOk_eB hb)]
  intro r' b' e1 e2 _ _
  obtain rfl := eR_inj e1
  obtain rfl := eB_inj e2
  exact h
theorem use_ckS {ec : Str → Addr} {r : List Hold} {b : Body} {s : List Int} {E : Value → Prop} {k : List Int → Prop} (hs : s ∈ goodS r b) (h : k s) : CkS ec r b (eS s) E k := by
  unfold CkS
  have g : goodOne r b (eS s) = true := by
    obtain ⟨h1, h2, h3⟩ := mem_good.mp hs
    rw [goodOne_eS h1 h2, h3]
  rw [if_pos g]
  intro s' e _
  obtain rfl := eS_inj e
  exact h
theorem use_ckH {ec : Str → Addr} {r : List Hold} {i : Int} {E : Value → Prop} {k : Int → Prop} (hi : InR r i) (h : k i) : CkH ec r (.int i) E k := by
  unfold CkH
  have g : btw (.int i) 0 (r.length - 1) = true := by
    obtain ⟨h0, h1⟩ := hi
    rw [btw_int, decide_eq_true h0, decide_eq_true (show i ≤ (r.length : Int) - 1 by omega)]
    rfl
  rw [if_pos g]
  intro s' e _
  injection e with e
  rw [← e]
  exact h
theorem ckB_both {ec : Str → Addr} {tw : Tw} {u v : PyData} {Q : D → Prop} {E : Value → Prop} (hu : u.plain = true) (hv : v.plain = true) (h : CkB ec u v E fun _ _ => Q dN) : sp_check_both ec tw [.p u, .p v] Q E := by
  refine ⟨u, v, rfl, hu, hv, ?_⟩
  unfold CkB at h
  split
  · rename_i h1
    rw [if_pos h1] at h
    split
    · rename_i h2
      rw [if_pos h2] at h
      obtain ⟨r, e1, hr⟩ := rockOk_is h1
      obtain ⟨b, e2, hb⟩ := bodyOk_is h2
      exact h r b e1 e2 hr hb
    · rename_i h2
      rw [if_neg h2] at h
      exact h
  · rename_i h1
    rw [if_neg h1] at h
    exact h
theorem ckB_case {ec : Str → Addr} {u v : PyData} {E : Value → Prop} {k : List Hold → Body → Prop} {G : Prop} (h : CkB ec u v E k) (h1 : ∀ r b, u = eR r → v = eB b → RockOk r → BodyOk b → k r b → G) (h2 : rockOk u = true → bodyOk v = false → E (.ref (ec "InvalidBody")) → G) (h3 : rockOk u = false → E (.ref (ec "InvalidRock")) → G) : G := by
  unfold CkB at h
  split at h
  · rename_i g1
    split at h
    · rename_i g2
      obtain ⟨r, e1, hr⟩ := rockOk_is g1
      obtain ⟨b, e2, hb⟩ := bodyOk_is g2
      exact h1 r b e1 e2 hr hb (h r b e1 e2 hr hb)
    · rename_i g2
      exact h2 g1 (by simpa using g2) h
  · rename_i g1
    exact h3 (by simpa using g1) h
theorem goodOne_is {r : List Hold} {b : Body} {x : PyData} (h : goodOne r b x = true) : ∃ s, x = eS s ∧ s ∈ goodS r b := by
  have h' := h
  unfold goodOne at h'
  rw [Bool.and_eq_true] at h'
  obtain ⟨is, rfl, h1, h2⟩ := areBtw_is h'.1
  refine ⟨is, rfl, ?_⟩
  have h1 : is.length = 4 := by omega
  have h2 : ∀ i ∈ is, 0 ≤ i ∧ i < (r.length : Int) := fun i hi => by
    have := h2 i hi
    omega
  exact mem_good.mpr ⟨h1, h2, (goodOne_eS h1 h2).symm.trans h⟩
theorem goodOne_good {r : List Hold} {b : Body} {s : List Int} (hs : s ∈ goodS r b) : goodOne r b (eS s) = true := by
  obtain ⟨h1, h2, h3⟩ := mem_good.mp hs
  rw [goodOne_eS h1 h2, h3]
/-- a shortest way -/
structure SPath (rows : List (List Int)) (s g : List Int) (l : List (List Int)) : Prop where
  hd : l.head? = some s
  lt : l.getLast? = some g
  inr : ∀ x ∈ l, x ∈ rows
  ok : pairsOk adj1 l = true
  short : IsD rows adj1 (l.length - 1) s g
def WayO (rows : List (List Int)) (s g : List Int) : Option (List (List Int)) → Prop
  | none => dist rows adj1 s g = none
  | some l => SPath rows s g l
def tops (s : List Int) (top : Int) : Bool := (s.take 2).any fun x => decide (x = top)
/-- the fewest moves to a stance that tops -/
def IsT (rows : List (List Int)) (s : List Int) (top : Int) (n : Nat) : Prop := (∃ g, IsD rows adj1 n s g ∧ tops g top = true) ∧ ∀ g m, Wk rows adj1 m s g → tops g top = true → n ≤ m
noncomputable def topd (rows : List (List Int)) (s : List Int) (top : Int) : Option Nat := @dite _ (∃ n, IsT rows s top n) (Classical.propDecidable _) (fun h => some (Classical.choose h)) (fun _ => none)
theorem IsT.uniq {rows : List (List Int)} {s : List Int} {top : Int} {n m : Nat} (h : IsT rows s top n) (k : IsT rows s top m) : n = m := by
  obtain ⟨g, h1, h2⟩ := h.1
  obtain ⟨g', k1, k2⟩ := k.1
  exact Nat.le_antisymm (h.2 g' m k1.1 k2) (k.2 g n h1.1 h2)
theorem topd_some {rows : List (List Int)} {s : List Int} {top : Int} {n : Nat} : topd rows s top = some n ↔ IsT rows s top n := by
  unfold topd
  by_cases h : ∃ n, IsT rows s top n
  · rw [dif_pos h, Option.some.injEq]
    have := Classical.choose_spec h
    exact ⟨fun e => by rw [← e]; exact this, fun k => this.uniq k⟩
  · rw [dif_neg h]
    exact ⟨fun e => (by cases e), fun k => absurd ⟨n, k⟩ h⟩
theorem isT_ex {rows : List (List Int)} {s : List Int} {top : Int} : ∀ {n : Nat} {g : List Int}, Wk rows adj1 n s g → tops g top = true → ∃ m, m ≤ n ∧ IsT rows s top m := by
  intro n
  induction n using Nat.strongRecOn with
  | ind n ih =>
    intro g h t
    by_cases q : ∃ m g, m < n ∧ Wk rows adj1 m s g ∧ tops g top = true
    · obtain ⟨m, g', hm, hw, ht⟩ := q
      obtain ⟨k, hk, hd⟩ := ih m hm hw ht
      exact ⟨k, by omega, hd⟩
    · refine ⟨n, Nat.le_refl _, ⟨g, ⟨h, fun m hm hw => q ⟨m, g, hm, hw, t⟩⟩, t⟩, fun g' m hw ht => ?_⟩
      by_cases z : n ≤ m
      · exact z
      · exact absurd ⟨m, g', by omega, hw, ht⟩ q
theorem topd_none {rows : List (List Int)} {s : List Int} {top : Int} : topd rows s top = none ↔ ∀ g, Rch rows adj1 s g → tops g top = false := by
  constructor
  · rintro e g ⟨n, h⟩
    cases t : tops g top with
    | false => rfl
    | true =>
      obtain ⟨m, _, hm⟩ := isT_ex h t
      rw [topd_some.mpr hm] at e
      cases e
  · intro h
    cases e : topd rows s top with
    | none => rfl
    | some n =>
      obtain ⟨g, h1, h2⟩ := (topd_some.mp e).1
      rw [h g ⟨n, h1.1⟩] at h2
      cases h2
/-- a shortest way to a top -/
def ClimbO (rows : List (List Int)) (s : List Int) (top : Int) : Option (List (List Int)) → Prop
  | none => topd rows s top = none
  | some l => ∃ g, SPath rows s g l ∧ tops g top = true ∧ topd rows s top = some (l.length - 1)
/-! any value -/
def decI : PyData → Int
  | .int i => i
  | _ => 0
def decS : PyData → List Int
  | .tuple xs => xs.map decI
  | _ => []
theorem decS_eS (s : List Int) : decS (eS s) = s := by
  show (s.map PyData.int).map decI = s
  rw [List.map_map]
  exact List.map_id s
def anyWay (r : List Hold) (b : Body) (v : PyData) : Bool := match v with
  | .tuple xs => !xs.isEmpty && (xs.all (goodOne r b) && pairsOk adj1 (xs.map decS))
  | _ => false
def isWay (r : List Hold) (b : Body) (s g : List Int) (v : PyData) : Bool := anyWay r b v && (match v with
  | .tuple xs => decide ((xs.map decS).head? = some s) && decide ((xs.map decS).getLast? = some g)
  | _ => false)
/-- a value that may be looked at -/
def OkV (v : PyData) : Prop := v.plain = true ∧ v.depth ≤ 60 ∧ ∀ xs, v = .tuple xs → xs.length ≤ 50000
section
variable (ec : Str → Addr)
def sp_check_hold : DSp := fun _ ds Q E => ∃ (r : List Hold) (x : PyData), ds = [.p (eR r), .p x] ∧ x.plain = true ∧ CkH ec r x E fun _ => Q dN
def sp_check_stance : DSp := fun _ ds Q E => ∃ (r : List Hold) (b : Body) (x : PyData), ds = [.p (eR r), .p (eB b), .p x] ∧ x.plain = true ∧ CkS ec r b x E fun _ => Q dN
def sp_check_all : DSp := fun _ ds Q E => ∃ u v x : PyData, ds = [.p u, .p v, .p x] ∧ u.plain = true ∧ v.plain = true ∧ x.plain = true ∧ CkB ec u v E fun r b => CkS ec r b x E fun _ => Q dN
def sp_changed : DSp := fun _ ds Q _ => ∃ (s : List Int) (l : Nat) (h : Int), ds = [.p (eS s), dI l, dI h] ∧ s.length = 4 ∧ l < 4 ∧ Q (.p (eS (s.set l h)))
def sp_next_stances : DSp := fun _ ds Q _ => ∃ (r : List Hold) (b : Body) (s : List Int), ds = [.p (eR r), .p (eB b), .p (eS s)] ∧ r.length ≤ 7 ∧ s ∈ goodS r b ∧ Q (.p (.list ((nbr r b s).map eS)))
def sp_moves : DSp := fun _ ds Q E => ∃ u v x : PyData, ds = [.p u, .p v, .p x] ∧ u.plain = true ∧ v.plain = true ∧ x.plain = true ∧ CkB ec u v E fun r b => CkS ec r b x E fun s => Q (.p (.tuple ((nbr r b s).map eS)))
def sp_ways_from : DSp := fun _ ds Q _ => ∃ (r : List Hold) (b : Body) (s : List Int), ds = [.p (eR r), .p (eB b), .p (eS s)] ∧ r.length ≤ 7 ∧ s ∈ goodS r b ∧ ∀ ks ps, BDone (goodS r b) adj1 s ks ps → Q (.fz ks (ps.map eO))
def sp_reachable : DSp := fun _ ds Q E => ∃ u v x : PyData, ds = [.p u, .p v, .p x] ∧ u.plain = true ∧ v.plain = true ∧ x.plain = true ∧ CkB ec u v E fun r b => CkS ec r b x E fun s => Q (.p (.tuple ((comp r b s).map eS)))
def sp_led_back : DSp := fun _ ds Q _ => ∃ (rows ks : List (List Int)) (ps : List (Option (List Int))) (s g : List Int), ds = [.fz ks (ps.map eO), .p (eS g)] ∧ rows.length ≤ 2401 ∧ (∀ x ∈ rows, x.length = 4) ∧ BDone rows adj1 s ks ps ∧ g ∈ ks ∧ ∀ l, SPath rows s g l → Q (.p (.tuple (l.map eS)))
def sp_found_way : DSp := fun _ ds Q E => ∃ u v x y : PyData, ds = [.p u, .p v, .p x, .p y] ∧ u.plain = true ∧ v.plain = true ∧ x.plain = true ∧ y.plain = true ∧ CkB ec u v E fun r b => CkS ec r b x E fun s => CkS ec r b y E fun g => ∀ o, WayO (goodS r b) s g o → Q (.p (eW o))
def sp_way : DSp := sp_found_way ec
def sp_length : DSp := fun _ ds Q E => ∃ u v x y : PyData, ds = [.p u, .p v, .p x, .p y] ∧ u.plain = true ∧ v.plain = true ∧ x.plain = true ∧ y.plain = true ∧ CkB ec u v E fun r b => CkS ec r b x E fun s => CkS ec r b y E fun g => Q (.p (eN (gd r b s g)))
def sp_differ_in_one : DSp := fun _ ds Q _ => ∃ s t : List Int, ds = [.p (eS s), .p (eS t)] ∧ s.length ≤ 1000 ∧ Q (dB (adj1 s t))
def sp_is_any_way : DSp := fun _ ds Q _ => ∃ (r : List Hold) (b : Body) (v : PyData), ds = [.p (eR r), .p (eB b), .p v] ∧ OkV v ∧ Q (dB (anyWay r b v))
def sp_is_way : DSp := fun _ ds Q E => ∃ u v x y z : PyData, ds = [.p u, .p v, .p x, .p y, .p z] ∧ u.plain = true ∧ v.plain = true ∧ x.plain = true ∧ y.plain = true ∧ OkV z ∧ CkB ec u v E fun r b => CkS ec r b x E fun s => CkS ec r b y E fun g => Q (dB (isWay r b s g z))
noncomputable def parts (r : List Hold) (b : Body) : Nat := (ddp ((goodS r b).map (comp r b))).length
def sp_count_parts : DSp := fun _ ds Q E => ∃ u v : PyData, ds = [.p u, .p v] ∧ u.plain = true ∧ v.plain = true ∧ CkB ec u v E fun r b => Q (dI (parts r b))
/-! tops -/
def sp_does_top : DSp := fun _ ds Q _ => ∃ (s : List Int) (top : Int), ds = [.p (eS s), dI top] ∧ Q (dB (tops s top))
def sp_check_top : DSp := fun _ ds Q E => ∃ u v x y : PyData, ds = [.p u, .p v, .p x, .p y] ∧ u.plain = true ∧ v.plain = true ∧ x.plain = true ∧ y.plain = true ∧ CkB ec u v E fun r b => CkS ec r b x E fun _ => CkH ec r y E fun _ => Q dN
def sp_found_climb : DSp := fun _ ds Q _ => ∃ (r : List Hold) (b : Body) (s : List Int) (top : Int), ds = [.p (eR r), .p (eB b), .p (eS s), dI top] ∧ r.length ≤ 7 ∧ s ∈ goodS r b ∧ ∀ o, ClimbO (goodS r b) s top o → Q (.p (eW o))
def sp_climb : DSp := fun _ ds Q E => ∃ u v x y : PyData, ds = [.p u, .p v, .p x, .p y] ∧ u.plain = true ∧ v.plain = true ∧ x.plain = true ∧ y.plain = true ∧ CkB ec u v E fun r b => CkS ec r b x E fun s => CkH ec r y E fun top => ∀ o, ClimbO (goodS r b) s top o → Q (.p (eW o))
def sp_fewest_moves : DSp := fun _ ds Q E => ∃ u v x y : PyData, ds = [.p u, .p v, .p x, .p y] ∧ u.plain = true ∧ v.plain = true ∧ x.plain = true ∧ y.plain = true ∧ CkB ec u v E fun r b => CkS ec r b x E fun s => CkH ec r y E fun top => Q (.p (eN (topd (goodS r b) s top)))
def isClimb (r : List Hold) (b : Body) (s : List Int) (top : Int) (v : PyData) : Bool := anyWay r b v && (match v with
  | .tuple xs => decide ((xs.map decS).head? = some s) && (((xs.map decS).getLast?.any fun x => tops x top) && !((xs.map decS).dropLast.any fun x => tops x top))
  | _ => false)
def sp_is_climb : DSp := fun _ ds Q E => ∃ u v x y z : PyData, ds = [.p u, .p v, .p x, .p y, .p z] ∧ u.plain = true ∧ v.plain = true ∧ x.plain = true ∧ y.plain = true ∧ OkV z ∧ CkB ec u v E fun r b => CkS ec r b x E fun s => CkH ec r y E fun top => Q (dB (isClimb r b s top z))
noncomputable def barO (r : List Hold) (b : Body) (s : List Int) (top : Int) : Option (List (List Int)) := if (topd (goodS r b) s top).isSome then none else some (comp r b s)
def sp_barrier : DSp := fun _ ds Q E => ∃ u v x y : PyData, ds = [.p u, .p v, .p x, .p y] ∧ u.plain = true ∧ v.plain = true ∧ x.plain = true ∧ y.plain = true ∧ CkB ec u v E fun r b => CkS ec r b x E fun s => CkH ec r y E fun top => Q (.p (eW (barO r b s top)))
end
/-! ### facts for the readings -/
theorem atD_ex {ks : List (List Int)} {k : List Int} : ∀ {ps : List (Option (List Int))}, k ∈ ks → ks.length = ps.length → ∃ (i : Nat) (p : Option (List Int)), ks[i]? = some k ∧ ps[i]? = some p ∧ atD ks (ps.map eO) k = some (eO p) := by
  induction ks with
  | nil => exact fun h => nomatch h
  | cons k' ks ih =>
    intro ps h hl
    cases ps with
    | nil => cases hl
    | cons p ps =>
      by_cases e : k' = k
      · refine ⟨0, p, by rw [e]; rfl, rfl, ?_⟩
        rw [List.map_cons, atD, if_pos e]
      · rcases List.mem_cons.mp h with h | h
        · exact absurd h.symm e
        · obtain ⟨i, q, h1, h2, h3⟩ := ih (ps := ps) h (by simpa using hl)
          refine ⟨i + 1, q, by simpa using h1, by simpa using h2, ?_⟩
          rw [List.map_cons, atD, if_neg e]
          exact h3
theorem atI_last {α : Type} {l : List α} {c : α} (h : l.getLast? = some c) : atI l (-1) = some c := by
  have hl : l ≠ [] := by
    intro e
    rw [e] at h
    cases h
  have hp : 0 < l.length := List.length_pos_iff.mpr hl
  unfold atI ixN
  rw [if_neg (by decide)]
  rw [List.getLast?_eq_getElem?] at h
  rw [if_pos (by omega), Option.bind_some, show (-1 + (l.length : Int)).toNat = l.length - 1 by omega]
  exact h
theorem plain_eO (p : Option (List Int)) : (eO p).plain = true := by
  cases p with
  | none => rfl
  | some s => exact plain_eS s
structure LB (rows : List (List Int)) (s g : List Int) (ks : List (List Int)) (st : List (List Int) × Nat) : Prop where
  hd : st.1.head? = some g
  ex : ∃ c, st.1.getLast? = some c ∧ c ∈ ks ∧ IsD rows adj1 st.2 s c
  inr : ∀ x ∈ st.1, x ∈ rows
  ok : pairsOk adj1 st.1.reverse = true
  d : ∃ m, IsD rows adj1 m s g ∧ m + 1 = st.2 + st.1.length
theorem LB.start {rows : List (List Int)} {s g : List Int} {ks : List (List Int)} {ps : List (Option (List Int))} (h : BDone rows adj1 s ks ps) (hg : g ∈ ks) : ∃ n, LB rows s g ks ([g], n) := by
  obtain ⟨m, hw⟩ := (h.mem g).mp hg
  obtain ⟨n, _, hn⟩ := isD_ex hw
  exact ⟨n, rfl, ⟨g, rfl, hg, hn⟩, fun x hx => by
    obtain rfl : x = g := by simpa using hx
    exact hw.lst, rfl, n, hn, rfl⟩
theorem LB.done {rows : List (List Int)} {s g : List Int} {ks : List (List Int)} {l : List (List Int)} {n : Nat} (h : LB rows s g ks (l, n)) (hl : l.getLast? = some s) (hs : s ∈ rows) : SPath rows s g l.reverse := by
  obtain ⟨m, h1, h2⟩ := h.d
  obtain ⟨c, c1, _, c3⟩ := h.ex
  have c1 : l.getLast? = some c := c1
  rw [hl] at c1
  cases c1
  have n0 : n = 0 := c3.uniq ⟨.nil hs, fun m hm => absurd hm (Nat.not_lt_zero _)⟩
  have h2 : m + 1 = n + l.length := h2
  refine ⟨by rw [List.head?_reverse]; exact hl, by rw [List.getLast?_reverse]; exact h.hd, fun x hx => h.inr x (List.mem_reverse.mp hx), h.ok, ?_⟩
  rw [List.length_reverse]
  have e : l.length - 1 = m := by omega
  rw [e]
  exact h1
theorem LB.go {rows : List (List Int)} {s g c u : List Int} {ks : List (List Int)} {l : List (List Int)} {n m : Nat} (h : LB rows s g ks (l, n)) (hc : l.getLast? = some c) (hu : u ∈ ks) (e : adj1 u c = true) (h1 : IsD rows adj1 m s u) (h2 : IsD rows adj1 (m + 1) s c) : LB rows s g ks (l ++ [u], m) ∧ m < n := by
  obtain ⟨k, k1, k2⟩ := h.d
  obtain ⟨c', c1, _, c3⟩ := h.ex
  have c1 : l.getLast? = some c' := c1
  rw [hc] at c1
  cases c1
  have hn : n = m + 1 := c3.uniq h2
  have k2 : k + 1 = n + l.length := k2
  have hne : l ≠ [] := by
    intro z
    rw [z] at hc
    cases hc
  refine ⟨⟨?_, ⟨u, by simp, hu, h1⟩, fun x hx => ?_, ?_, k, k1, ?_⟩, by omega⟩
  · show (l ++ [u]).head? = some g
    rw [List.head?_append]
    have := h.hd
    have h5 : l.head? = some g := h.hd
    rw [h5]
    rfl
  · rcases List.mem_append.mp hx with hx | hx
    · exact h.inr x hx
    · obtain rfl : x = u := by simpa using hx
      exact h1.1.lst
  · show pairsOk adj1 (l ++ [u]).reverse = true
    obtain ⟨l', rfl⟩ : ∃ l', l = l' ++ [c] := by
      exact List.getLast?_eq_some_iff.mp hc
    have ok := h.ok
    rw [List.reverse_append] at ok ⊢
    have ok : pairsOk adj1 ([c].reverse ++ l'.reverse) = true := by rw [← List.reverse_append]; exact h.ok
    rw [List.reverse_append]
    show (adj1 u c && pairsOk adj1 ([c].reverse ++ l'.reverse)) = true
    rw [e, ok]
    rfl
  · show k + 1 = m + (l ++ [u]).length
    rw [List.length_append, List.length_singleton]
    omega
theorem q_zipT {R : List PyData → Prop} {p q : PyData} {ps qs : List PyData} (h : R (zipD ps qs)) (e1 : p = .tuple ps := by with_unfolding_all rfl) (e2 : q = .tuple qs := by with_unfolding_all rfl) : zipv R [.c (.p p), .c (.p q)] := by
  subst e1
  subst e2
  exact h
theorem zipD_map {α β : Type} (f : α → PyData) (g : β → PyData) : ∀ (s : List α) (t : List β), zipD (s.map f) (t.map g) = (s.zip t).map fun p => .tuple [f p.1, g p.2]
  | [], _ => rfl
  | _ :: _, [] => rfl
  | a :: s, b :: t => by
    have ih := zipD_map f g s t
    unfold zipD at ih ⊢
    rw [List.map_cons, List.map_cons, List.zipWith_cons_cons, List.zip_cons_cons, List.map_cons, ih]
theorem cut1 {α : Type} (f : α → PyData) (l : List α) : cutD (l.map f) (some 1) none = (l.drop 1).map f := by
  cases l with
  | nil => rfl
  | cons a l =>
    have e1 : HT.sIx (a :: l).length 0 (some 1) = 1 := by
      unfold HT.sIx
      simp
    have e2 : HT.sIx (a :: l).length (a :: l).length none = (a :: l).length := rfl
    unfold cutD
    rw [List.length_map, e1, e2, List.map_cons, List.drop_succ_cons, List.drop_zero, List.drop_succ_cons, List.drop_zero]
    refine List.take_of_length_le ?_
    rw [List.length_map, List.length_cons]
    omega
theorem pairs_zip {α : Type} {adj : α → α → Bool} : ∀ l : List α, pairsOk adj l = (l.zip (l.drop 1)).all fun p => adj p.1 p.2
  | [] => rfl
  | [_] => rfl
  | x :: y :: l => by
    have ih := pairs_zip (adj := adj) (y :: l)
    show (adj x y && pairsOk adj (y :: l)) = _
    rw [ih]
    rfl
theorem anyWay_tup {r : List Hold} {b : Body} {l : List (List Int)} (h : ∀ x ∈ l, x ∈ goodS r b) : anyWay r b (.tuple (l.map eS)) = (!l.isEmpty && pairsOk adj1 l) := by
  have e1 : (l.map eS).all (goodOne r b) = true := by
    rw [List.all_map, List.all_eq_true]
    exact fun x hx => goodOne_good (h x hx)
  have e2 : (l.map eS).map decS = l := by
    rw [List.map_map]
    have : decS ∘ eS = id := funext decS_eS
    rw [this, List.map_id]
  show (!(l.map eS).isEmpty && ((l.map eS).all (goodOne r b) && pairsOk adj1 ((l.map eS).map decS))) = _
  rw [e1, e2, Bool.true_and]
  cases l <;> rfl
theorem good_all {r : List Hold} {b : Body} : ∀ {xs : List PyData}, xs.all (goodOne r b) = true → ∃ l : List (List Int), xs = l.map eS ∧ ∀ x ∈ l, x ∈ goodS r b
  | [], _ => ⟨[], rfl, fun _ h => nomatch h⟩
  | x :: xs, h => by
    rw [List.all_cons, Bool.and_eq_true] at h
    obtain ⟨s, rfl, hs⟩ := goodOne_is h.1
    obtain ⟨l, rfl, hl⟩ := good_all h.2
    exact ⟨s :: l, rfl, fun y hy => by
      rcases List.mem_cons.mp hy with rfl | hy
      · exact hs
      · exact hl y hy⟩
theorem anyWay_is {r : List Hold} {b : Body} {v : PyData} (h : anyWay r b v = true) : ∃ l : List (List Int), v = .tuple (l.map eS) ∧ l ≠ [] ∧ (∀ x ∈ l, x ∈ goodS r b) ∧ pairsOk adj1 l = true := by
  cases v with
  | tuple xs =>
    have h' : (!xs.isEmpty && (xs.all (goodOne r b) && pairsOk adj1 (xs.map decS))) = true := h
    simp only [Bool.and_eq_true] at h'
    obtain ⟨l, rfl, hl⟩ := good_all h'.2.1
    rw [anyWay_tup hl, Bool.and_eq_true] at h
    exact ⟨l, rfl, fun e => (by rw [e] at h; cases h.1), hl, h.2⟩
  | _ => cases h
theorem isWay_tup {r : List Hold} {b : Body} {s g : List Int} {l : List (List Int)} (h : anyWay r b (.tuple (l.map eS)) = true) : isWay r b s g (.tuple (l.map eS)) = (decide (l.head? = some s) && decide (l.getLast? = some g)) := by
  have e2 : (l.map eS).map decS = l := by
    rw [List.map_map]
    have : decS ∘ eS = id := funext decS_eS
    rw [this, List.map_id]
  show (anyWay r b (.tuple (l.map eS)) && (decide (((l.map eS).map decS).head? = some s) && decide (((l.map eS).map decS).getLast? = some g))) = _
  rw [h, e2, Bool.true_and]
theorem eqv_nilT (xs : List PyData) : PyData.eqv (.tuple xs) (.tuple []) = xs.isEmpty := by
  cases xs <;> (rw [PyData.eqv]; rfl)
theorem hd_dec {l : List (List Int)} {c s : List Int} (h : l.head? = some c) : decide (l.head? = some s) = decide (c = s) := by
  rw [h]
  by_cases e : c = s
  · rw [e, decide_eq_true rfl, decide_eq_true rfl]
  · rw [decide_eq_false e, decide_eq_false fun z => e (Option.some.inj z)]
theorem lt_dec {l : List (List Int)} {c s : List Int} (h : l.getLast? = some c) : decide (l.getLast? = some s) = decide (c = s) := by
  rw [h]
  by_cases e : c = s
  · rw [e, decide_eq_true rfl, decide_eq_true rfl]
  · rw [decide_eq_false e, decide_eq_false fun z => e (Option.some.inj z)]
theorem r_eqS {Q : AV → Prop} {a b : List Int} (h : Q (.c (dB (decide (a = b))))) : gEq (.c (.p (eS a))) (.c (.p (eS b))) Q := by
  refine r_eq rfl rfl ⟨plain_eS a, plain_eS b, Nat.le_trans (depth_eS a) (by decide)⟩ ?_
  rw [eqv_eS]
  exact h
theorem r_neS {Q : AV → Prop} {a b : List Int} (h : Q (.c (dB (!decide (a = b))))) : gNe (.c (.p (eS a))) (.c (.p (eS b))) Q := by
  refine r_ne rfl rfl ⟨plain_eS a, plain_eS b, Nat.le_trans (depth_eS a) (by decide)⟩ ?_
  rw [eqv_eS]
  exact h
/-! ### how many parts -/
theorem ddp_step {α β : Type} [DecidableEq β] (f : α → β) {l : List α} {x : α} (hx : x ∈ l) : (ddp (l.map f)).length = (ddp ((l.filter fun y => !decide (f y = f x)).map f)).length + 1 := by
  have h : (ddp (l.map f)).length = (f x :: ddp ((l.filter fun y => !decide (f y = f x)).map f)).length := by
    refine nodup_len (nodup_ddp _) (List.nodup_cons.mpr ⟨fun h => ?_, nodup_ddp _⟩) fun c => ?_
    · obtain ⟨y, hy, e⟩ := List.mem_map.mp (mem_ddp.mp h)
      have := (List.mem_filter.mp hy).2
      rw [e] at this
      simp at this
    · rw [mem_ddp, List.mem_cons, mem_ddp, List.mem_map, List.mem_map]
      constructor
      · rintro ⟨y, hy, rfl⟩
        by_cases e : f y = f x
        · exact .inl e
        · exact .inr ⟨y, List.mem_filter.mpr ⟨hy, by simp [e]⟩, rfl⟩
      · rintro (rfl | ⟨y, hy, rfl⟩)
        · exact ⟨x, hx, rfl⟩
        · exact ⟨y, (List.mem_filter.mp hy).1, rfl⟩
  rw [h, List.length_cons]
theorem comp_eq {r : List Hold} {b : Body} {x y : List Int} (hy : y ∈ goodS r b) : comp r b x = comp r b y ↔ Rch (goodS r b) adj1 x y := by
  constructor
  · intro e
    refine mem_comp.mp ?_
    rw [e]
    exact mem_comp.mpr ⟨0, .nil hy⟩
  · intro h
    unfold comp
    refine List.filter_congr fun t ht => ?_
    rw [Bool.eq_iff_iff, Option.isSome_iff_ne_none, Option.isSome_iff_ne_none]
    constructor
    · exact fun k => rch_dist.mp ((h.symm adj1_symm).trans (rch_dist.mpr k))
    · exact fun k => rch_dist.mp (h.trans (rch_dist.mpr k))
/-! ### slices -/
theorem cut_map2 {α : Type} (f : α → PyData) (l : List α) (lo hi : Option Int) : cutD (l.map f) lo hi = ((l.drop (HT.sIx l.length 0 lo)).take (HT.sIx l.length l.length hi - HT.sIx l.length 0 lo)).map f := by
  unfold cutD
  rw [List.length_map, ← List.map_drop, ← List.map_take]
theorem sIx_m1 (n d : Nat) : HT.sIx n d (some (-1)) = n - 1 := by
  show (if (-1 : Int) < 0 then ((-1 : Int) + (n : Int)).toNat else min (-1 : Int).toNat n) = n - 1
  rw [if_pos (by decide)]
  omega
theorem cut_to {α : Type} (f : α → PyData) (l : List α) (k : Nat) : cutD (l.map f) none (some (k : Int)) = (l.take k).map f := by
  rw [cut_map2, HT.sIx_nat, HT.sIx_none]
  rw [List.drop_zero, Nat.sub_zero]
  congr 1
  rw [List.take_eq_take_iff]
  omega
theorem cut_butlast {α : Type} (f : α → PyData) (l : List α) : cutD (l.map f) none (some (-1)) = l.dropLast.map f := by
  rw [cut_map2, sIx_m1, HT.sIx_none, List.drop_zero, Nat.sub_zero, List.dropLast_eq_take]
/-! ### the least of pairs (length, row) -/
def eP (l : List (List Int)) : PyData := .tuple [.int l.length, .tuple (l.map eS)]
theorem alike_rows : ∀ a b : List (List Int), PySem.W.alikeAll (a.map eS) (b.map eS) = true
  | [], _ => by rw [List.map_nil, PySem.W.alikeAll]
  | _ :: _, [] => by rw [List.map_nil, List.map_cons, PySem.W.alikeAll]
  | x :: a, y :: b => by
    rw [List.map_cons, List.map_cons, PySem.W.alikeAll, alike_rows a b, Bool.and_true]
    unfold eS
    rw [PySem.W.alike]
    exact PySem.W.alike_ints x y
theorem alike_eP (a b : List (List Int)) : PySem.W.alike (eP a) (eP b) = true := by
  unfold eP
  rw [PySem.W.alike, PySem.W.alikeAll, PySem.W.alikeAll, PySem.W.alikeAll, PySem.W.alike, PySem.W.alike, alike_rows]
  rfl
theorem lt_eP {a b : List (List Int)} : (PySem.W.dataLt (eP a) (eP b) = true → a.length ≤ b.length) ∧ (PySem.W.dataLt (eP a) (eP b) = false → b.length ≤ a.length) := by
  have e : PySem.W.dataLt (eP a) (eP b) = if PyData.eqv (.int a.length) (.int b.length) = true then (if PyData.eqv (.tuple (a.map eS)) (.tuple (b.map eS)) = true then false else PySem.W.dataLt (.tuple (a.map eS)) (.tuple (b.map eS))) else PySem.W.dataLt (.int a.length) (.int b.length) := by
    refine PySem.W.dataLt_pair (by rw [PySem.W.alike]) ?_
    rw [PySem.W.alike]
    exact alike_rows a b
  rw [e, eqv_int, PySem.W.dataLt_int]
  by_cases h : (a.length : Int) = b.length
  · exact ⟨fun _ => by omega, fun _ => by omega⟩
  · rw [if_neg (by simpa using h)]
    exact ⟨fun k => by have := of_decide_eq_true k; omega, fun k => by have := of_decide_eq_false k; omega⟩
theorem min_eP : ∀ (ls : List (List (List Int))) (l0 : List (List Int)), ∃ m ∈ l0 :: ls, PySem.W.minD (eP l0) (ls.map eP) = eP m ∧ ∀ x ∈ l0 :: ls, m.length ≤ x.length
  | [], l0 => ⟨l0, by simp, rfl, fun x hx => by
    obtain rfl : x = l0 := by simpa using hx
    exact Nat.le_refl _⟩
  | l1 :: ls, l0 => by
    have st : PySem.W.minD (eP l0) ((l1 :: ls).map eP) = PySem.W.minD (if PySem.W.dataLt (eP l1) (eP l0) then eP l1 else eP l0) (ls.map eP) := rfl
    rw [st]
    cases e : PySem.W.dataLt (eP l1) (eP l0) with
    | true =>
      obtain ⟨m, h1, h2, h3⟩ := min_eP ls l1
      refine ⟨m, List.mem_cons_of_mem _ h1, by rw [if_pos rfl]; exact h2, fun x hx => ?_⟩
      rcases List.mem_cons.mp hx with rfl | hx
      · exact Nat.le_trans (h3 l1 (by simp)) (lt_eP.1 e)
      · exact h3 x hx
    | false =>
      obtain ⟨m, h1, h2, h3⟩ := min_eP ls l0
      refine ⟨m, ?_, by rw [if_neg (by decide)]; exact h2, fun x hx => ?_⟩
      · rcases List.mem_cons.mp h1 with h | h
        · rw [h]; simp
        · exact List.mem_cons_of_mem _ (List.mem_cons_of_mem _ h)
      · rcases List.mem_cons.mp hx with rfl | hx
        · exact h3 x (by simp)
        · rcases List.mem_cons.mp hx with rfl | hx
          · exact Nat.le_trans (h3 l0 (by simp)) (lt_eP.2 e)
          · exact h3 x (List.mem_cons_of_mem _ hx)
theorem depth_rowsT (l : List (List Int)) : (PyData.tuple (l.map eS)).depth ≤ 3 := depth_rows l
theorem plain_rowsT (l : List (List Int)) : (PyData.tuple (l.map eS)).plain = true := plain_tup' (plain_rows l)
theorem depth_eP (l : List (List Int)) : (eP l).depth ≤ 4 := depth_tup (n := 3) fun x hx => by
  simp only [List.mem_cons, List.not_mem_nil, or_false] at hx
  rcases hx with rfl | rfl
  · exact Nat.le_trans (depth_int _) (by decide)
  · exact depth_rows l
theorem alikeAll_eP (ls : List (List (List Int))) : PySem.W.AlikeAll (ls.map eP) := ⟨fun x hx y hy => by
  obtain ⟨a, _, rfl⟩ := List.mem_map.mp hx
  obtain ⟨b, _, rfl⟩ := List.mem_map.mp hy
  exact alike_eP a b, fun x hx e => by
  obtain ⟨a, _, rfl⟩ := List.mem_map.mp hx
  unfold eP at e
  cases e⟩
theorem isClimb_tup {r : List Hold} {b : Body} {s c d : List Int} {top : Int} {l : List (List Int)} (h : anyWay r b (.tuple (l.map eS)) = true) (h1 : l.head? = some c) (h2 : l.getLast? = some d) : isClimb r b s top (.tuple (l.map eS)) = (decide (c = s) && (tops d top && !(l.dropLast.any fun x => tops x top))) := by
  have e2 : (l.map eS).map decS = l := by
    rw [List.map_map]
    have : decS ∘ eS = id := funext decS_eS
    rw [this, List.map_id]
  show (anyWay r b (.tuple (l.map eS)) && (decide (((l.map eS).map decS).head? = some s) && ((((l.map eS).map decS).getLast?.any fun x => tops x top) && !(((l.map eS).map decS).dropLast.any fun x => tops x top)))) = _
  rw [h, e2, Bool.true_and, hd_dec h1, h2]
  rfl
theorem climb_none {rows ks : List (List Int)} {ps : List (Option (List Int))} {s : List Int} {top : Int} (hd : BDone rows adj1 s ks ps) (h : ks.any (fun k => tops k top) = false) : topd rows s top = none := topd_none.mpr fun g hg => by
  have := List.any_eq_false.mp h g ((hd.mem g).mpr hg)
  simpa using this
theorem climb_some {rows ks : List (List Int)} {ps : List (Option (List Int))} {s : List Int} {top : Int} (hd : BDone rows adj1 s ks ps) (h : ks.any (fun k => tops k top) = true) : (topd rows s top).isSome = true := by
  obtain ⟨g, h1, h2⟩ := List.any_eq_true.mp h
  cases e : topd rows s top with
  | some n => rfl
  | none =>
    rw [topd_none.mp e g ((hd.mem g).mp h1)] at h2
    cases h2
end WL

set_option maxRecDepth 100000
set_option maxHeartbeats 1000000
namespace WL
open PySem PySem.Spec PyProof.Rows L2
/-! ### barriers, needs, two bodies, mirrors: what is promised -/
def ascB (l : List (List Int)) : Bool := (l.zip (l.drop 1)).all fun p => decide (p.1 < p.2)
def inB (l : List (List Int)) (s : List Int) : Bool := l.any fun x => decide (x = s)
theorem inB_iff {l : List (List Int)} {s : List Int} : inB l s = true ↔ s ∈ l := by
  unfold inB
  rw [List.any_eq_true]
  constructor
  · rintro ⟨x, h1, h2⟩
    rw [← of_decide_eq_true h2]
    exact h1
  · exact fun h => ⟨s, h, decide_eq_true rfl⟩
theorem inB_dec (l : List (List Int)) (s : List Int) : inB l s = decide (s ∈ l) := by
  rw [Bool.eq_iff_iff, inB_iff, decide_eq_true_eq]
def isBarL (r : List Hold) (b : Body) (s : List Int) (top : Int) (l : List (List Int)) : Bool := ascB l && (inB l s && (!(l.any fun x => tops x top) && l.all fun x => (nbr r b x).all fun t => inB l t))
def isBar (r : List Hold) (b : Body) (s : List Int) (top : Int) (v : PyData) : Bool := match v with
  | .tuple xs => xs.all (goodOne r b) && isBarL r b s top (xs.map decS)
  | _ => false
theorem isBar_tup {r : List Hold} {b : Body} {s : List Int} {top : Int} {l : List (List Int)} (h : ∀ x ∈ l, x ∈ goodS r b) : isBar r b s top (.tuple (l.map eS)) = isBarL r b s top l := by
  have e1 : (l.map eS).all (goodOne r b) = true := by
    rw [List.all_map, List.all_eq_true]
    exact fun x hx => goodOne_good (h x hx)
  have e2 : (l.map eS).map decS = l := by
    rw [List.map_map]
    have : decS ∘ eS = id := funext decS_eS
    rw [this, List.map_id]
  show ((l.map eS).all (goodOne r b) && isBarL r b s top ((l.map eS).map decS)) = _
  rw [e1, e2, Bool.true_and]
/-- the good stances on some holds alone -/
def subS (r : List Hold) (b : Body) (hs : List Int) : List (List Int) := (goodS r b).filter fun t => t.all fun x => decide (x ∈ hs)
noncomputable def canOn (r : List Hold) (b : Body) (s : List Int) (top : Int) (hs : List Int) : Bool := (topd (subS r b hs) s top).isSome
noncomputable def can (r : List Hold) (b : Body) (s : List Int) (top : Int) : Bool := (topd (goodS r b) s top).isSome
def holdsN (n : Nat) : List Int := (List.range n).map fun (i : Nat) => (i : Int)
def without (n : Nat) (h : Int) : List Int := (holdsN n).filter fun x => !decide (x = h)
noncomputable def needO (r : List Hold) (b : Body) (s : List Int) (top : Int) : Option (List Int) := if can r b s top = true then some ((holdsN r.length).filter fun h => !canOn r b s top (without r.length h)) else none
def powN : Nat → List (List Int)
  | 0 => [[]]
  | n + 1 => powN n ++ (powN n).map fun row => row ++ [(n : Int)]
def subLe (a b : List Int) : Bool := decide (a.length < b.length) || (decide (a.length = b.length) && decide (a ≤ b))
def subsL (n : Nat) : List (List Int) := (powN n).mergeSort subLe
noncomputable def fewO (r : List Hold) (b : Body) (s : List Int) (top : Int) : Option (List Int) := (subsL r.length).find? fun hs => canOn r b s top hs
def setB (b : Body) (w : Nat) (k : Int) : Body := match w with
  | 0 => (k, b.2.1, b.2.2.1, b.2.2.2)
  | 1 => (b.1, k, b.2.2.1, b.2.2.2)
  | 2 => (b.1, b.2.1, k, b.2.2.2)
  | _ => (b.1, b.2.1, b.2.2.1, k)
noncomputable def leastR (r : List Hold) (b : Body) (s : List Int) (top : Int) (w : Nat) : Option Nat := (List.range 21).find? fun (k : Nat) => keptL r (setB b w k) s && can r (setB b w k) s top
def wider (a b : Body) : Bool := decide (b.1 ≤ a.1) && (decide (b.2.1 ≤ a.2.1) && (decide (b.2.2.1 ≤ a.2.2.1) && decide (b.2.2.2 ≤ a.2.2.2)))
def partS (r : List Hold) (a b : Body) : List (List Int) := (rowsN r.length 4).filter fun s => !(keptL r a s == keptL r b s)
def mirR (r : List Hold) : List Hold := r.map fun h => (20 - h.1, h.2.1, h.2.2)
def upR (r : List Hold) (by_ : Int) : List Hold := r.map fun h => (h.1, h.2.1 + by_, h.2.2)
def mirS : List Int → List Int
  | [i, j, k, l] => [j, i, l, k]
  | s => s
def upOk (r : List Hold) (y : PyData) : Bool := match y with
  | .int i => decide (-20 ≤ i) && (decide (i ≤ 20) && r.all fun h => decide (0 ≤ h.2.1 + i) && decide (h.2.1 + i ≤ 20))
  | _ => false
def CkR (ec : Str → Addr) (u : PyData) (E : Value → Prop) (k : List Hold → Prop) : Prop := if rockOk u = true then ∀ r, u = eR r → RockOk r → k r else E (.ref (ec "InvalidRock"))
def CkBB (ec : Str → Addr) (u v : PyData) (E : Value → Prop) (k : Body → Body → Prop) : Prop := if bodyOk u = true then (if bodyOk v = true then ∀ a b, u = eB a → v = eB b → BodyOk a → BodyOk b → k a b else E (.ref (ec "InvalidBody"))) else E (.ref (ec "InvalidBody"))
def CkN (ec : Str → Addr) (z : PyData) (E : Value → Prop) (k : Nat → Prop) : Prop := if btw z 0 3 = true then ∀ w : Nat, w < 4 → z = .int w → k w else E (.ref (ec "InvalidNumber"))
theorem ckR_mono {ec : Str → Addr} {u : PyData} {E : Value → Prop} {k k' : List Hold → Prop} (h : CkR ec u E k) (m : ∀ r, u = eR r → RockOk r → k r → k' r) : CkR ec u E k' := by
  unfold CkR at h ⊢
  split
  · rename_i h1
    rw [if_pos h1] at h
    exact fun r e hr => m r e hr (h r e hr)
  · rename_i h1
    rw [if_neg h1] at h
    exact h
theorem ckBB_mono {ec : Str → Addr} {u v : PyData} {E : Value → Prop} {k k' : Body → Body → Prop} (h : CkBB ec u v E k) (m : ∀ a b, u = eB a → v = eB b → BodyOk a → BodyOk b → k a b → k' a b) : CkBB ec u v E k' := by
  unfold CkBB at h ⊢
  split
  · rename_i h1
    rw [if_pos h1] at h
    split
    · rename_i h2
      rw [if_pos h2] at h
      exact fun r b e1 e2 hr hb => m r b e1 e2 hr hb (h r b e1 e2 hr hb)
    · rename_i h2
      rw [if_neg h2] at h
      exact h
  · rename_i h1
    rw [if_neg h1] at h
    exact h
theorem use_ckR {ec : Str → Addr} {r : List Hold} {E : Value → Prop} {k : List Hold → Prop} (hr : RockOk r) (h : k r) : CkR ec (eR r) E k := by
  unfold CkR
  rw [if_pos (rockOk_eR hr)]
  intro r' e1 _
  obtain rfl := eR_inj e1
  exact h
theorem use_ckBB {ec : Str → Addr} {a b : Body} {E : Value → Prop} {k : Body → Body → Prop} (ha : BodyOk a) (hb : BodyOk b) (h : k a b) : CkBB ec (eB a) (eB b) E k := by
  unfold CkBB
  rw [if_pos (bodyOk_eB ha), if_pos (bodyOk_eB hb)]
  intro a' b' e1 e2 _ _
  obtain rfl := eB_inj e1
  obtain rfl := eB_inj e2
  exact h
theorem use_ckN {ec : Str → Addr} {w : Nat} {E : Value → Prop} {k : Nat → Prop} (hw : w < 4) (h : k w) : CkN ec (.int w) E k := by
  unfold CkN
  rw [if_pos (by rw [btw_int, decide_eq_true (show (0 : Int) ≤ w by omega), decide_eq_true (show (w : Int) ≤ 3 by omega)]; rfl)]
  intro w' _ e
  injection e with e
  have : w = w' := by omega
  rw [← this]
  exact h
theorem ckR_rock {ec : Str → Addr} {tw : Tw} {u : PyData} {Q : D → Prop} {E : Value → Prop} (hu : u.plain = true) (h : CkR ec u E fun _ => Q dN) : sp_check_rock ec tw [.p u] Q E := by
  refine ⟨u, rfl, hu, ?_⟩
  unfold CkR at h
  split
  · rename_i h1
    rw [if_pos h1] at h
    obtain ⟨r, e1, hr⟩ := rockOk_is h1
    exact h r e1 hr
  · rename_i h1
    rw [if_neg h1] at h
    exact h
theorem ckBB_ab {ec : Str → Addr} {u v : PyData} {E : Value → Prop} {Q : Prop} (h : CkBB ec u v E fun _ _ => Q) : if bodyOk u = true then (if bodyOk v = true then Q else E (.ref (ec "InvalidBody"))) else E (.ref (ec "InvalidBody")) := by
  unfold CkBB at h
  split
  · rename_i h1
    rw [if_pos h1] at h
    split
    · rename_i h2
      rw [if_pos h2] at h
      obtain ⟨a, e1, ha⟩ := bodyOk_is h1
      obtain ⟨b, e2, hb⟩ := bodyOk_is h2
      exact h a b e1 e2 ha hb
    · rename_i h2
      rw [if_neg h2] at h
      exact h
  · rename_i h1
    rw [if_neg h1] at h
    exact h
def eI : Option (List Int) → PyData
  | none => .none
  | some s => eS s
theorem eI_none : eI none = .none := rfl
theorem eI_some {s : List Int} : eI (some s) = eS s := rfl
section
variable (ec : Str → Addr)
def sp_is_barrier : DSp := fun _ ds Q E => ∃ u v x y z : PyData, ds = [.p u, .p v, .p x, .p y, .p z] ∧ u.plain = true ∧ v.plain = true ∧ x.plain = true ∧ y.plain = true ∧ OkV z ∧ CkB ec u v E fun r b => CkS ec r b x E fun s => CkH ec r y E fun top => Q (dB (isBar r b s top z))
def sp_has_climb : DSp := fun _ ds Q _ => ∃ (r : List Hold) (b : Body) (s : List Int) (top : Int), ds = [.p (eR r), .p (eB b), .p (eS s), dI top] ∧ r.length ≤ 7 ∧ s ∈ goodS r b ∧ Q (dB (can r b s top))
def sp_has_climb_on : DSp := fun _ ds Q _ => ∃ (r : List Hold) (b : Body) (s : List Int) (top : Int) (hs : List Int) (hv : PyData), ds = [.p (eR r), .p (eB b), .p (eS s), dI top, .p hv] ∧ r.length ≤ 7 ∧ s ∈ goodS r b ∧ (hv = .list (hs.map .int) ∨ hv = .tuple (hs.map .int)) ∧ Q (dB (canOn r b s top hs))
def sp_needed_holds : DSp := fun _ ds Q E => ∃ u v x y : PyData, ds = [.p u, .p v, .p x, .p y] ∧ u.plain = true ∧ v.plain = true ∧ x.plain = true ∧ y.plain = true ∧ CkB ec u v E fun r b => CkS ec r b x E fun s => CkH ec r y E fun top => Q (.p (eI (needO r b s top)))
def sp_subsets_of : DSp := fun _ ds Q _ => ∃ n : Nat, ds = [dI n] ∧ n ≤ 7 ∧ Q (.p (.list ((subsL n).map eS)))
def sp_fewest_holds : DSp := fun _ ds Q E => ∃ u v x y : PyData, ds = [.p u, .p v, .p x, .p y] ∧ u.plain = true ∧ v.plain = true ∧ x.plain = true ∧ y.plain = true ∧ CkB ec u v E fun r b => CkS ec r b x E fun s => CkH ec r y E fun top => Q (.p (eI (fewO r b s top)))
def sp_least_reach : DSp := fun _ ds Q E => ∃ u v x y z : PyData, ds = [.p u, .p v, .p x, .p y, .p z] ∧ u.plain = true ∧ v.plain = true ∧ x.plain = true ∧ y.plain = true ∧ z.plain = true ∧ CkB ec u v E fun r b => CkS ec r b x E fun s => CkH ec r y E fun top => CkN ec z E fun w => Q (.p (eN (leastR r b s top w)))
def sp_check_two : DSp := fun _ ds Q E => ∃ u v : PyData, ds = [.p u, .p v] ∧ u.plain = true ∧ v.plain = true ∧ CkBB ec u v E fun _ _ => Q dN
def sp_is_wider : DSp := fun _ ds Q E => ∃ u v : PyData, ds = [.p u, .p v] ∧ u.plain = true ∧ v.plain = true ∧ CkBB ec u v E fun a b => Q (dB (wider a b))
def sp_partings : DSp := fun _ ds Q E => ∃ u v x : PyData, ds = [.p u, .p v, .p x] ∧ u.plain = true ∧ v.plain = true ∧ x.plain = true ∧ CkR ec u E fun r => CkBB ec v x E fun a b => Q (.p (.list ((partS r a b).map eS)))
def sp_go_alike : DSp := fun _ ds Q E => ∃ u v x : PyData, ds = [.p u, .p v, .p x] ∧ u.plain = true ∧ v.plain = true ∧ x.plain = true ∧ CkR ec u E fun r => CkBB ec v x E fun a b => Q (dB (partS r a b).isEmpty)
def sp_parting_stance : DSp := fun _ ds Q E => ∃ u v x : PyData, ds = [.p u, .p v, .p x] ∧ u.plain = true ∧ v.plain = true ∧ x.plain = true ∧ CkR ec u E fun r => CkBB ec v x E fun a b => Q (.p (eO (partS r a b).head?))
def sp_mirrored : DSp := fun _ ds Q E => ∃ u : PyData, ds = [.p u] ∧ u.plain = true ∧ CkR ec u E fun r => Q (.p (eR (mirR r)))
def sp_is_stance : DSp := fun _ ds Q _ => ∃ v : PyData, ds = [.p v] ∧ v.plain = true ∧ Q (dB (areBtw v 4 0 6))
def sp_check_any_stance : DSp := fun _ ds Q E => ∃ v : PyData, ds = [.p v] ∧ v.plain = true ∧ if areBtw v 4 0 6 = true then Q dN else E (.ref (ec "InvalidStance"))
def sp_mirrored_stance : DSp := fun _ ds Q E => ∃ v : PyData, ds = [.p v] ∧ v.plain = true ∧ if areBtw v 4 0 6 = true then ∀ s : List Int, v = eS s → s.length = 4 → Q (.p (eS (mirS s))) else E (.ref (ec "InvalidStance"))
def sp_higher : DSp := fun _ ds Q E => ∃ u y : PyData, ds = [.p u, .p y] ∧ u.plain = true ∧ y.plain = true ∧ CkR ec u E fun r => if upOk r y = true then ∀ i, y = .int i → Q (.p (eR (upR r i))) else E (.ref (ec "InvalidNumber"))
end
end WL

set_option maxRecDepth 100000
set_option maxHeartbeats 1000000
namespace WL
open PySem PySem.Spec PyProof.Rows L2
/-! ### depth first, for a top -/
structure Dfs (rows : List (List Int)) (s : List Int) (top : Int) (e : List Int → Prop) (st : List (List Int) × List (List Int)) : Prop where
  nd : st.1.Nodup
  sm : s ∈ st.1
  wk : ∀ x ∈ st.2, x ∈ st.1
  wl : st.2.length ≤ st.1.length
  rch : ∀ k ∈ st.1, Rch rows adj1 s k
  cl : ∀ k ∈ st.1, k ∉ st.2 → ¬ e k → tops k top = false ∧ ∀ u ∈ rows, adj1 k u = true → u ∈ st.1
theorem Rch.inR {rows : List (List Int)} {s t : List Int} (h : Rch rows adj1 s t) : t ∈ rows := by
  obtain ⟨n, h⟩ := h
  exact h.lst
theorem Dfs.start {rows : List (List Int)} {s : List Int} {top : Int} (hs : s ∈ rows) : Dfs rows s top (fun _ => False) ([s], [s]) := ⟨by simp, by simp, fun _ h => h, Nat.le_refl _, fun k hk => by
  obtain rfl : k = s := by simpa using hk
  exact ⟨0, .nil hs⟩, fun k hk hn => absurd hk hn⟩
def dIn (rows : List (List Int)) (st : List (List Int) × List (List Int)) (t : List Int) : List (List Int) × List (List Int) := if t ∈ st.1 then st else if t ∈ rows then (st.1 ++ [t], st.2 ++ [t]) else st
theorem Dfs.look {rows : List (List Int)} {s here t : List Int} {top : Int} {st : List (List Int) × List (List Int)} (h : Dfs rows s top (fun x => x = here) st) (hh : here ∈ st.1) (e : adj1 here t = true) :
    Dfs rows s top (fun x => x = here) (dIn rows st t) ∧ (∀ v ∈ st.1, v ∈ (dIn rows st t).1) ∧ (t ∈ rows → t ∈ (dIn rows st t).1) := by
  unfold dIn
  by_cases q : t ∈ st.1
  · rw [if_pos q]
    exact ⟨h, fun _ h => h, fun _ => q⟩
  · rw [if_neg q]
    by_cases q2 : t ∈ rows
    · rw [if_pos q2]
      refine ⟨⟨List.nodup_append.mpr ⟨h.nd, by simp, fun a ha b hb e3 => ?_⟩, List.mem_append_left _ h.sm, fun x hx => ?_, ?_, fun k hk => ?_, fun k hk hn he => ?_⟩, fun v hv => List.mem_append_left _ hv, fun _ => List.mem_append_right _ (by simp)⟩
      · obtain rfl : b = t := by simpa using hb
        exact q (by rw [← e3]; exact ha)
      · rcases List.mem_append.mp hx with hx | hx
        · exact List.mem_append_left _ (h.wk x hx)
        · exact List.mem_append_right _ hx
      · have := h.wl
        show (st.2 ++ [t]).length ≤ (st.1 ++ [t]).length
        rw [List.length_append, List.length_append]
        omega
      · rcases List.mem_append.mp hk with hk | hk
        · exact h.rch k hk
        · obtain rfl : k = t := by simpa using hk
          exact (h.rch here hh).step q2 e
      · have hn' : k ∉ st.2 ∧ k ≠ t := ⟨fun z => hn (List.mem_append_left _ z), fun z => hn (List.mem_append_right _ (by rw [z]; simp))⟩
        rcases List.mem_append.mp hk with hk | hk
        · obtain ⟨c1, c2⟩ := h.cl k hk hn'.1 he
          exact ⟨c1, fun u hu hku => List.mem_append_left _ (c2 u hu hku)⟩
        · exact absurd (by simpa using hk) hn'.2
    · rw [if_neg q2]
      exact ⟨h, fun _ h => h, fun z => absurd z q2⟩
theorem Dfs.looks {rows : List (List Int)} {s here : List Int} {top : Int} : ∀ {ts : List (List Int)} {st : List (List Int) × List (List Int)}, Dfs rows s top (fun x => x = here) st → here ∈ st.1 → (∀ t ∈ ts, adj1 here t = true) →
    Dfs rows s top (fun x => x = here) (ts.foldl (dIn rows) st) ∧ (∀ v ∈ st.1, v ∈ (ts.foldl (dIn rows) st).1) ∧ ∀ t ∈ ts, t ∈ rows → t ∈ (ts.foldl (dIn rows) st).1
  | [], st, h, _, _ => ⟨h, fun _ h => h, fun _ h => nomatch h⟩
  | t :: ts, st, h, hh, ht => by
    obtain ⟨h1, h2, h3⟩ := h.look hh (ht t List.mem_cons_self)
    obtain ⟨h4, h5, h6⟩ := Dfs.looks (ts := ts) h1 (h2 _ hh) fun u hu => ht u (List.mem_cons_of_mem _ hu)
    exact ⟨h4, fun v hv => h5 v (h2 v hv), fun u hu hur => by
      rcases List.mem_cons.mp hu with rfl | hu
      · exact h5 _ (h3 hur)
      · exact h6 u hu hur⟩
theorem dfold_len {rows : List (List Int)} : ∀ (ts : List (List Int)) (st : List (List Int) × List (List Int)), (ts.foldl (dIn rows) st).1.length + st.2.length = (ts.foldl (dIn rows) st).2.length + st.1.length
  | [], st => by simp only [List.foldl_nil]; omega
  | t :: ts, st => by
    rw [List.foldl_cons]
    have ih := dfold_len (rows := rows) ts (dIn rows st t)
    by_cases q : t ∈ st.1
    · have e1 : dIn rows st t = st := if_pos q
      rw [e1] at ih ⊢
      exact ih
    · by_cases q2 : t ∈ rows
      · have e1 : dIn rows st t = (st.1 ++ [t], st.2 ++ [t]) := by unfold dIn; rw [if_neg q, if_pos q2]
        rw [e1] at ih ⊢
        simp only [List.length_append, List.length_singleton] at ih
        omega
      · have e1 : dIn rows st t = st := by unfold dIn; rw [if_neg q, if_neg q2]
        rw [e1] at ih ⊢
        exact ih
theorem Dfs.pop {rows : List (List Int)} {s here : List Int} {top : Int} {ks w : List (List Int)} (h : Dfs rows s top (fun _ => False) (ks, w ++ [here])) : Dfs rows s top (fun x => x = here) (ks, w) ∧ here ∈ ks := by
  refine ⟨⟨h.nd, h.sm, fun x hx => h.wk x (List.mem_append_left _ hx), ?_, h.rch, fun k hk hn he => h.cl k hk (fun z => ?_) (fun z => z)⟩, h.wk here (by simp)⟩
  · have := h.wl
    have e : (w ++ [here]).length = w.length + 1 := by simp
    have this : (w ++ [here]).length ≤ ks.length := this
    show w.length ≤ ks.length
    omega
  · rcases List.mem_append.mp z with z | z
    · exact hn z
    · exact he (by simpa using z)
theorem Dfs.close {rows : List (List Int)} {s here : List Int} {top : Int} {st : List (List Int) × List (List Int)} (h : Dfs rows s top (fun x => x = here) st) (ht : tops here top = false) (hn : ∀ u ∈ rows, adj1 here u = true → u ∈ st.1) : Dfs rows s top (fun _ => False) st := ⟨h.nd, h.sm, h.wk, h.wl, h.rch, fun k hk hw _ => by
  by_cases e : k = here
  · rw [e]
    exact ⟨ht, hn⟩
  · exact h.cl k hk hw e⟩
theorem Dfs.done {rows : List (List Int)} {s : List Int} {top : Int} {ks : List (List Int)} (h : Dfs rows s top (fun _ => False) (ks, [])) : topd rows s top = none := by
  have all : ∀ n t, Wk rows adj1 n s t → t ∈ ks := by
    intro n
    induction n with
    | zero =>
      intro t hw
      rw [← hw.zero]
      exact h.sm
    | succ n ih =>
      intro t hw
      obtain ⟨u, h1, h2⟩ := hw.succ
      exact (h.cl u (ih u h1) (by simp) (fun z => z)).2 t hw.lst h2
  refine topd_none.mpr fun g ⟨n, hw⟩ => (h.cl g (all n g hw) (by simp) (fun z => z)).1
theorem Dfs.found {rows : List (List Int)} {s here : List Int} {top : Int} {e : List Int → Prop} {st : List (List Int) × List (List Int)} (h : Dfs rows s top e st) (hh : here ∈ st.1) (ht : tops here top = true) : (topd rows s top).isSome = true := by
  cases e : topd rows s top with
  | some n => rfl
  | none =>
    rw [topd_none.mp e here (h.rch here hh)] at ht
    cases ht
theorem mem_subS {r : List Hold} {b : Body} {hs t : List Int} : t ∈ subS r b hs ↔ t ∈ goodS r b ∧ ∀ x ∈ t, x ∈ hs := by
  unfold subS
  rw [List.mem_filter, List.all_eq_true]
  constructor
  · exact fun h => ⟨h.1, fun x hx => of_decide_eq_true (h.2 x hx)⟩
  · exact fun h => ⟨h.1, fun x hx => decide_eq_true (h.2 x hx)⟩
theorem canOn_false {r : List Hold} {b : Body} {s : List Int} {top : Int} {hs : List Int} (h : s ∉ subS r b hs) : canOn r b s top hs = false := by
  unfold canOn
  have e : topd (subS r b hs) s top = none := topd_none.mpr fun g ⟨n, hw⟩ => absurd hw.fst h
  rw [e]
  rfl
theorem keptL_setB {r : List Hold} {b : Body} {s : List Int} {w : Nat} {k : Int} : keptL r (setB b w k) s = keptL r (setB b w k) s := rfl
theorem can_iff {r : List Hold} {b : Body} {s : List Int} {top : Int} : can r b s top = true ↔ ∃ g, Rch (goodS r b) adj1 s g ∧ tops g top = true := by
  unfold can
  constructor
  · intro h
    cases e : topd (goodS r b) s top with
    | none => rw [e] at h; cases h
    | some n =>
      obtain ⟨g, h1, h2⟩ := (topd_some.mp e).1
      exact ⟨g, ⟨n, h1.1⟩, h2⟩
  · rintro ⟨g, ⟨n, h1⟩, h2⟩
    obtain ⟨m, _, hm⟩ := isT_ex h1 h2
    rw [topd_some.mpr hm]
    rfl
end WL
namespace WL
open PySem PySem.Spec PyProof.Rows L2
theorem any_int (hs : List Int) (x : Int) : ((hs.map PyData.int).any fun z => PyData.eqv z (.int x)) = decide (x ∈ hs) := by
  rw [List.any_map, Bool.eq_iff_iff, List.any_eq_true, decide_eq_true_eq]
  constructor
  · rintro ⟨y, hy, e⟩
    have e : PyData.eqv (.int y) (.int x) = true := e
    rw [eqv_int] at e
    rw [← of_decide_eq_true e]
    exact hy
  · exact fun h => ⟨x, h, by show PyData.eqv (.int x) (.int x) = true; rw [eqv_int]; exact decide_eq_true rfl⟩
theorem r_inH {Q : AV → Prop} {hs : List Int} {hv : PyData} {x : Int} (h : hv = .list (hs.map .int) ∨ hv = .tuple (hs.map .int)) (q : Q (.c (dB (decide (x ∈ hs))))) : gInP false (.c (dI x)) (.c (.p hv)) Q := by
  rcases h with rfl | rfl
  · refine r_inL rfl rfl rfl (plain_ints _) (Nat.le_trans (depth_int _) (by decide)) ?_
    rw [any_int]
    exact q
  · refine r_inT rfl rfl rfl (plain_ints _) (Nat.le_trans (depth_int _) (by decide)) ?_
    rw [any_int]
    exact q
end WL
namespace WL
open PySem PySem.Spec PyProof.Rows L2
/-- for, with an early return -/
theorem for_find {T : Tgt} {body : DS} {E : EndsD} {α : Type} {enc : α → PyData} (S : List SV → Prop) (p : α → Bool) (g : α → D) : ∀ {as : List α} {Γ : List SV}, S Γ →
    (∀ a ∈ as, ∀ (Γ : List SV), S Γ → ∃ Γ1, dTgt T (enc a) Γ = some Γ1 ∧ ∀ N : List SV → Prop, (p a = false → ∀ Γ', S Γ' → N Γ') → (p a = true → E.rt (g a)) → body { nx := N, ct := N, bk := E.nx, rt := E.rt, ex := E.ex } Γ1) →
    (∀ a, as.find? p = some a → E.rt (g a)) → (as.find? p = none → ∀ Γ, S Γ → E.nx Γ) → dForL T body E (as.map enc) Γ
  | [], Γ, hs, _, _, he => he rfl Γ hs
  | a :: as, Γ, hs, h, hr, he => by
    obtain ⟨Γ1, h1, h2⟩ := h a List.mem_cons_self Γ hs
    rw [List.map_cons]
    refine r_forc h1 (h2 _ (fun hp Γ' hs' => ?_) fun hp => hr a (by rw [List.find?_cons, hp]))
    have e : (a :: as).find? p = as.find? p := by rw [List.find?_cons, hp]
    rw [e] at hr he
    exact for_find S p g hs' (fun b hb => h b (List.mem_cons_of_mem _ hb)) hr he
theorem ints_map (n : Nat) : (List.range n).map (fun (i : Nat) => PyData.int i) = (holdsN n).map PyData.int := by
  unfold holdsN
  rw [List.map_map]
  rfl
theorem mem_holdsN {n : Nat} {h : Int} : h ∈ holdsN n ↔ 0 ≤ h ∧ h < n := by
  unfold holdsN
  rw [List.mem_map]
  constructor
  · rintro ⟨i, hi, rfl⟩
    have := List.mem_range.mp hi
    omega
  · rintro ⟨h0, h1⟩
    exact ⟨h.toNat, List.mem_range.mpr (by omega), by omega⟩
theorem holdsN_len (n : Nat) : (holdsN n).length = n := by
  unfold holdsN
  rw [List.length_map, List.length_range]
/-! the parts of the holds -/
def eP2 (l : List Int) : PyData := .tuple [.int l.length, eS l]
theorem le_eP2 (a b : List Int) : PySem.W.dataLe false (fun x : List Int => eP2 x) a b = subLe a b := by
  show (!PySem.W.dataLt (eP2 b) (eP2 a)) = subLe a b
  have e : PySem.W.dataLt (eP2 b) (eP2 a) = if PyData.eqv (.int b.length) (.int a.length) = true then (if PyData.eqv (eS b) (eS a) = true then false else PySem.W.dataLt (eS b) (eS a)) else PySem.W.dataLt (.int b.length) (.int a.length) := by
    refine PySem.W.dataLt_pair (by rw [PySem.W.alike]) ?_
    unfold eS
    rw [PySem.W.alike]
    exact PySem.W.alike_ints b a
  have e3 : PySem.W.dataLt (eS b) (eS a) = decide (b < a) := by
    unfold eS
    rw [PySem.W.dataLt_tuple]
    show PySem.W.rowLt (b.map .int) (a.map .int) = _
    rw [PySem.W.dataLt_ints]
  rw [e, eqv_int, PySem.W.dataLt_int, eqv_eS, e3]
  unfold subLe
  by_cases h : b.length = a.length
  · rw [if_pos (decide_eq_true (show (b.length : Int) = a.length by omega)), decide_eq_false (show ¬ a.length < b.length by omega), decide_eq_true (show a.length = b.length from h.symm), Bool.false_or, Bool.true_and]
    by_cases h2 : b = a
    · rw [if_pos (decide_eq_true h2), h2]
      simp
    · rw [if_neg (by simpa using h2)]
      by_cases h3 : b < a
      · rw [decide_eq_true h3, decide_eq_false (fun z => List.not_lt.mpr z h3)]
        rfl
      · rw [decide_eq_false h3, decide_eq_true (List.not_lt.mp h3)]
        rfl
  · rw [if_neg (by simp only [decide_eq_true_eq]; omega), decide_eq_false (show ¬ a.length = b.length by omega), Bool.false_and, Bool.or_false]
    by_cases h2 : a.length < b.length
    · rw [decide_eq_true h2, decide_eq_false (by omega)]
      rfl
    · rw [decide_eq_false h2, decide_eq_true (by omega)]
      rfl
theorem srt_subs (n : Nat) : srtD ((powN n).map eP2) = (subsL n).map eP2 := by
  refine (List.map_mergeSort (r := subLe) (s := PySem.W.dataLe false id) (f := eP2) (l := powN n) fun a _ b _ => ?_).symm
  rw [← le_eP2]
  rfl
theorem powN_len : ∀ n, (powN n).length = 2 ^ n
  | 0 => rfl
  | n + 1 => by
    show (powN n ++ (powN n).map fun row => row ++ [(n : Int)]).length = _
    rw [List.length_append, List.length_map, powN_len n, Nat.pow_succ]
    omega
theorem powN_in : ∀ {n : Nat} {l : List Int}, l ∈ powN n → l.length ≤ n ∧ ∀ x ∈ l, 0 ≤ x ∧ x < n
  | 0, l, h => by
    obtain rfl : l = [] := by simpa [powN] using h
    exact ⟨Nat.le_refl _, fun _ h => nomatch h⟩
  | n + 1, l, h => by
    have h : l ∈ powN n ++ (powN n).map fun row => row ++ [(n : Int)] := h
    rcases List.mem_append.mp h with h | h
    · obtain ⟨h1, h2⟩ := powN_in h
      exact ⟨by omega, fun x hx => by have := h2 x hx; omega⟩
    · obtain ⟨row, hr, rfl⟩ := List.mem_map.mp h
      obtain ⟨h1, h2⟩ := powN_in hr
      refine ⟨by rw [List.length_append, List.length_singleton]; omega, fun x hx => ?_⟩
      rcases List.mem_append.mp hx with hx | hx
      · have := h2 x hx
        omega
      · obtain rfl : x = (n : Int) := by simpa using hx
        omega
theorem subsL_mem {n : Nat} {l : List Int} : l ∈ subsL n ↔ l ∈ powN n := (List.mergeSort_perm _ _).mem_iff
theorem alike_eP2 (ls : List (List Int)) : PySem.W.AllAlike (ls.map eP2) := PySem.W.AllAlike.of fun a b => by
  unfold eP2 eS
  rw [PySem.W.alike, PySem.W.alikeAll, PySem.W.alikeAll, PySem.W.alikeAll, PySem.W.alike, PySem.W.alike]
  rw [PySem.W.alike_ints]
  rfl
theorem depth_eP2 (l : List Int) : (eP2 l).depth ≤ 3 := depth_tup (n := 2) fun x hx => by
  simp only [List.mem_cons, List.not_mem_nil, or_false] at hx
  rcases hx with rfl | rfl
  · exact Nat.le_trans (depth_int _) (by decide)
  · exact depth_eS l
end WL
namespace WL
open PySem PySem.Spec PyProof.Rows L2
theorem any_rows (l : List (List Int)) (s : List Int) : ((l.map eS).any fun z => PyData.eqv z (eS s)) = inB l s := by
  rw [List.any_map]
  unfold inB
  congr 1
  funext x
  exact eqv_eS x s
theorem r_inS {Q : AV → Prop} {ng : Bool} {s : List Int} {y : AV} {l : List (List Int)} (e : y.any = .p (.list (l.map eS)) ∨ y.any = .p (.tuple (l.map eS))) (h : Q (.c (dB (if ng then !inB l s else inB l s)))) : gInP ng (.c (.p (eS s))) y Q := by
  rcases e with e | e
  · refine r_inL rfl e (plain_eS s) (plain_rows _) (Nat.le_trans (depth_eS s) (by decide)) ?_
    rw [any_rows]
    exact h
  · refine r_inT rfl e (plain_eS s) (plain_rows _) (Nat.le_trans (depth_eS s) (by decide)) ?_
    rw [any_rows]
    exact h
theorem inB_good {r : List Hold} {a b : Body} {s : List Int} (h : s ∈ goodS r a) : inB (goodS r b) s = keptL r b s := by
  rw [Bool.eq_iff_iff, inB_iff, mem_good]
  obtain ⟨h1, h2, _⟩ := mem_good.mp h
  exact ⟨fun h => h.2.2, fun h => ⟨h1, h2, h⟩⟩
theorem partS_asc (r : List Hold) (a b : Body) : (partS r a b).Pairwise (· < ·) := (rows_asc r.length 4).filter _
theorem mem_partS {r : List Hold} {a b : Body} {s : List Int} : s ∈ partS r a b ↔ (s.length = 4 ∧ ∀ i ∈ s, 0 ≤ i ∧ i < (r.length : Int)) ∧ keptL r a s ≠ keptL r b s := by
  unfold partS
  rw [List.mem_filter]
  constructor
  · rintro ⟨h1, h2⟩
    exact ⟨⟨rowsN_len s h1, rowsN_rng s h1⟩, by simpa using h2⟩
  · rintro ⟨⟨h1, h2⟩, h3⟩
    exact ⟨mem_rows h1 h2, by simpa using h3⟩
theorem srt_part {r : List Hold} {a b : Body} : srtD (((goodS r a).filter fun s => !inB (goodS r b) s).map eS ++ ((goodS r b).filter fun s => !inB (goodS r a) s).map eS) = (partS r a b).map eS := by
  rw [← List.map_append]
  refine srt_is (partS_asc r a b) (List.nodup_append.mpr ⟨(good_nodup r a).filter _, (good_nodup r b).filter _, fun x hx y hy e => ?_⟩) fun s => ?_
  · obtain ⟨h1, h2⟩ := List.mem_filter.mp hx
    obtain ⟨h3, h4⟩ := List.mem_filter.mp hy
    rw [← e] at h3
    rw [inB_iff.mpr h3] at h2
    cases h2
  · rw [List.mem_append, List.mem_filter, List.mem_filter, mem_partS]
    constructor
    · rintro (⟨h1, h2⟩ | ⟨h1, h2⟩)
      · have h := mem_good.mp h1
        rw [inB_good h1] at h2
        exact ⟨⟨h.1, h.2.1⟩, by rw [h.2.2]; intro e; rw [← e] at h2; cases h2⟩
      · have h := mem_good.mp h1
        rw [inB_good h1] at h2
        exact ⟨⟨h.1, h.2.1⟩, by rw [h.2.2]; intro e; rw [e] at h2; cases h2⟩
    · rintro ⟨⟨h1, h2⟩, h3⟩
      cases e : keptL r a s with
      | true =>
        have hm : s ∈ goodS r a := mem_good.mpr ⟨h1, h2, e⟩
        refine .inl ⟨hm, ?_⟩
        rw [inB_good hm]
        rw [e] at h3
        cases e2 : keptL r b s with
        | true => rw [e2] at h3; exact absurd rfl h3
        | false => rfl
      | false =>
        rw [e] at h3
        cases e2 : keptL r b s with
        | false => rw [e2] at h3; exact absurd rfl h3
        | true =>
          have hm : s ∈ goodS r b := mem_good.mpr ⟨h1, h2, e2⟩
          refine .inr ⟨hm, ?_⟩
          rw [inB_good hm, e]
          rfl
/-! is_barrier -/
theorem lt_rowsD (a b : List Int) : PySem.W.dataLt (eS a) (eS b) = decide (a < b) := by
  unfold eS
  rw [PySem.W.dataLt_tuple]
  show PySem.W.rowLt (a.map .int) (b.map .int) = _
  rw [PySem.W.dataLt_ints]
theorem r_ltS {Q : AV → Prop} {a b : List Int} (h : Q (.c (dB (decide (a < b))))) : gLtP (.c (.p (eS a))) (.c (.p (eS b))) Q := by
  show PySem.W.alike (eS a) (eS b) = true ∧ eS a ≠ .none ∧ (eS a).depth ≤ 60 ∧ Q (.c (dB (PySem.W.dataLt (eS a) (eS b))))
  refine ⟨?_, fun e => ?_, Nat.le_trans (depth_eS a) (by decide), ?_⟩
  · unfold eS
    rw [PySem.W.alike]
    exact PySem.W.alike_ints a b
  · unfold eS at e
    cases e
  · rw [lt_rowsD]
    exact h
end WL

set_option maxRecDepth 100000
set_option maxHeartbeats 1000000
namespace WL
open PySem PySem.Spec PyProof.Rows L2
/-! ### calls, their arguments known to be right -/
theorem okV_rows {l : List (List Int)} (h : l.length ≤ 50000) : OkV (.tuple (l.map eS)) := ⟨plain_rowsT l, Nat.le_trans (depth_rowsT l) (by decide), fun xs e => by
  injection e with e
  rw [← e, List.length_map]
  exact h⟩
section
variable {ec : Str → Addr} {tw : Tw} {r : List Hold} {b a : Body} {s g : List Int} {top : Int} {w : Nat} {l : List (List Int)} {z : PyData} {Q : D → Prop} {E : Value → Prop}
theorem u_moves (h : Q (.p (.tuple ((nbr r b s).map eS)))) (hr : RockOk r := by assumption) (hb : BodyOk b := by assumption) (hs : s ∈ goodS r b := by assumption) : sp_moves ec tw [.p (eR r), .p (eB b), .p (eS s)] Q E := ⟨_, _, _, rfl, plain_eR r, plain_eB b, plain_eS s, use_ckB hr hb (use_ckS hs h)⟩
theorem u_reachable (h : Q (.p (.tuple ((comp r b s).map eS)))) (hr : RockOk r := by assumption) (hb : BodyOk b := by assumption) (hs : s ∈ goodS r b := by assumption) : sp_reachable ec tw [.p (eR r), .p (eB b), .p (eS s)] Q E := ⟨_, _, _, rfl, plain_eR r, plain_eB b, plain_eS s, use_ckB hr hb (use_ckS hs h)⟩
theorem u_length (h : Q (.p (eN (gd r b s g)))) (hr : RockOk r := by assumption) (hb : BodyOk b := by assumption) (hs : s ∈ goodS r b := by assumption) (hg : g ∈ goodS r b := by assumption) : sp_length ec tw [.p (eR r), .p (eB b), .p (eS s), .p (eS g)] Q E := ⟨_, _, _, _, rfl, plain_eR r, plain_eB b, plain_eS s, plain_eS g, use_ckB hr hb (use_ckS hs (use_ckS hg h))⟩
theorem u_way (h : ∀ o, WayO (goodS r b) s g o → Q (.p (eW o))) (hr : RockOk r := by assumption) (hb : BodyOk b := by assumption) (hs : s ∈ goodS r b := by assumption) (hg : g ∈ goodS r b := by assumption) : sp_way ec tw [.p (eR r), .p (eB b), .p (eS s), .p (eS g)] Q E := ⟨_, _, _, _, rfl, plain_eR r, plain_eB b, plain_eS s, plain_eS g, use_ckB hr hb (use_ckS hs (use_ckS hg h))⟩
theorem u_is_way (h : Q (dB (isWay r b s g z))) (hz : OkV z := by assumption) (hr : RockOk r := by assumption) (hb : BodyOk b := by assumption) (hs : s ∈ goodS r b := by assumption) (hg : g ∈ goodS r b := by assumption) : sp_is_way ec tw [.p (eR r), .p (eB b), .p (eS s), .p (eS g), .p z] Q E := ⟨_, _, _, _, _, rfl, plain_eR r, plain_eB b, plain_eS s, plain_eS g, hz, use_ckB hr hb (use_ckS hs (use_ckS hg h))⟩
theorem u_parts (h : Q (dI (parts r b))) (hr : RockOk r := by assumption) (hb : BodyOk b := by assumption) : sp_count_parts ec tw [.p (eR r), .p (eB b)] Q E := ⟨_, _, rfl, plain_eR r, plain_eB b, use_ckB hr hb h⟩
theorem u_stances (h : Q (.p (.tuple ((goodS r b).map eS)))) (hr : RockOk r := by assumption) (hb : BodyOk b := by assumption) : sp_stances ec tw [.p (eR r), .p (eB b)] Q E := use_stances hr hb h
theorem u_good (h : Q (dB (goodOne r b (eS s)))) (hr : RockOk r := by assumption) (hb : BodyOk b := by assumption) : sp_is_good ec tw [.p (eR r), .p (eB b), .p (eS s)] Q E := use_good hr hb (plain_eS s) h
theorem u_climb (h : ∀ o, ClimbO (goodS r b) s top o → Q (.p (eW o))) (hr : RockOk r := by assumption) (hb : BodyOk b := by assumption) (hs : s ∈ goodS r b := by assumption) (ht : InR r top := by assumption) : sp_climb ec tw [.p (eR r), .p (eB b), .p (eS s), dI top] Q E := ⟨_, _, _, _, rfl, plain_eR r, plain_eB b, plain_eS s, rfl, use_ckB hr hb (use_ckS hs (use_ckH ht h))⟩
theorem u_fewest (h : Q (.p (eN (topd (goodS r b) s top)))) (hr : RockOk r := by assumption) (hb : BodyOk b := by assumption) (hs : s ∈ goodS r b := by assumption) (ht : InR r top := by assumption) : sp_fewest_moves ec tw [.p (eR r), .p (eB b), .p (eS s), dI top] Q E := ⟨_, _, _, _, rfl, plain_eR r, plain_eB b, plain_eS s, rfl, use_ckB hr hb (use_ckS hs (use_ckH ht h))⟩
theorem u_is_climb (h : Q (dB (isClimb r b s top z))) (hz : OkV z := by assumption) (hr : RockOk r := by assumption) (hb : BodyOk b := by assumption) (hs : s ∈ goodS r b := by assumption) (ht : InR r top := by assumption) : sp_is_climb ec tw [.p (eR r), .p (eB b), .p (eS s), dI top, .p z] Q E := ⟨_, _, _, _, _, rfl, plain_eR r, plain_eB b, plain_eS s, rfl, hz, use_ckB hr hb (use_ckS hs (use_ckH ht h))⟩
theorem u_barrier (h : Q (.p (eW (barO r b s top)))) (hr : RockOk r := by assumption) (hb : BodyOk b := by assumption) (hs : s ∈ goodS r b := by assumption) (ht : InR r top := by assumption) : sp_barrier ec tw [.p (eR r), .p (eB b), .p (eS s), dI top] Q E := ⟨_, _, _, _, rfl, plain_eR r, plain_eB b, plain_eS s, rfl, use_ckB hr hb (use_ckS hs (use_ckH ht h))⟩
theorem u_is_barrier (h : Q (dB (isBar r b s top z))) (hz : OkV z := by assumption) (hr : RockOk r := by assumption) (hb : BodyOk b := by assumption) (hs : s ∈ goodS r b := by assumption) (ht : InR r top := by assumption) : sp_is_barrier ec tw [.p (eR r), .p (eB b), .p (eS s), dI top, .p z] Q E := ⟨_, _, _, _, _, rfl, plain_eR r, plain_eB b, plain_eS s, rfl, hz, use_ckB hr hb (use_ckS hs (use_ckH ht h))⟩
theorem u_needed (h : Q (.p (eI (needO r b s top)))) (hr : RockOk r := by assumption) (hb : BodyOk b := by assumption) (hs : s ∈ goodS r b := by assumption) (ht : InR r top := by assumption) : sp_needed_holds ec tw [.p (eR r), .p (eB b), .p (eS s), dI top] Q E := ⟨_, _, _, _, rfl, plain_eR r, plain_eB b, plain_eS s, rfl, use_ckB hr hb (use_ckS hs (use_ckH ht h))⟩
theorem u_few (h : Q (.p (eI (fewO r b s top)))) (hr : RockOk r := by assumption) (hb : BodyOk b := by assumption) (hs : s ∈ goodS r b := by assumption) (ht : InR r top := by assumption) : sp_fewest_holds ec tw [.p (eR r), .p (eB b), .p (eS s), dI top] Q E := ⟨_, _, _, _, rfl, plain_eR r, plain_eB b, plain_eS s, rfl, use_ckB hr hb (use_ckS hs (use_ckH ht h))⟩
theorem u_least (h : Q (.p (eN (leastR r b s top w)))) (hw : w < 4 := by assumption) (hr : RockOk r := by assumption) (hb : BodyOk b := by assumption) (hs : s ∈ goodS r b := by assumption) (ht : InR r top := by assumption) : sp_least_reach ec tw [.p (eR r), .p (eB b), .p (eS s), dI top, dI w] Q E := ⟨_, _, _, _, _, rfl, plain_eR r, plain_eB b, plain_eS s, rfl, rfl, use_ckB hr hb (use_ckS hs (use_ckH ht (use_ckN hw h)))⟩
theorem u_wider (h : Q (dB (wider a b))) (ha : BodyOk a := by assumption) (hb : BodyOk b := by assumption) : sp_is_wider ec tw [.p (eB a), .p (eB b)] Q E := ⟨_, _, rfl, plain_eB a, plain_eB b, use_ckBB ha hb h⟩
theorem u_alike (h : Q (dB (partS r a b).isEmpty)) (hr : RockOk r := by assumption) (ha : BodyOk a := by assumption) (hb : BodyOk b := by assumption) : sp_go_alike ec tw [.p (eR r), .p (eB a), .p (eB b)] Q E := ⟨_, _, _, rfl, plain_eR r, plain_eB a, plain_eB b, use_ckR hr (use_ckBB ha hb h)⟩
theorem u_parting (h : Q (.p (eO (partS r a b).head?))) (hr : RockOk r := by assumption) (ha : BodyOk a := by assumption) (hb : BodyOk b := by assumption) : sp_parting_stance ec tw [.p (eR r), .p (eB a), .p (eB b)] Q E := ⟨_, _, _, rfl, plain_eR r, plain_eB a, plain_eB b, use_ckR hr (use_ckBB ha hb h)⟩
theorem u_mirrored (h : Q (.p (eR (mirR r)))) (hr : RockOk r := by assumption) : sp_mirrored ec tw [.p (eR r)] Q E := ⟨_, rfl, plain_eR r, use_ckR hr h⟩
theorem u_is_rock (h : Q (dB true)) (hr : RockOk r := by assumption) : sp_is_rock tw [.p (eR r)] Q E := ⟨_, rfl, plain_eR r, by rw [rockOk_eR hr]; exact h⟩
theorem u_mirS (h : Q (.p (eS (mirS s)))) (h4 : areBtw (eS s) 4 0 6 = true := by assumption) : sp_mirrored_stance ec tw [.p (eS s)] Q E := ⟨_, rfl, plain_eS s, by
  rw [if_pos h4]
  intro s' e _
  rw [← eS_inj e]
  exact h⟩
theorem u_higher {i : Int} (h : Q (.p (eR (upR r i)))) (hi : upOk r (.int i) = true := by assumption) (hr : RockOk r := by assumption) : sp_higher ec tw [.p (eR r), dI i] Q E := ⟨_, _, rfl, plain_eR r, rfl, use_ckR hr (by
  rw [if_pos hi]
  intro i' e
  injection e with e
  rw [← e]
  exact h)⟩
end
/-! ### drawn stances -/
theorem pick {l : List (List Int)} {z : Int} (h0 : 0 ≤ z) (h1 : z < ((l.map eS).length : Int)) : ∃ s, s ∈ l ∧ atI (l.map eS) z = some (eS s) := by
  rw [List.length_map] at h1
  refine ⟨l[z.toNat]'(by omega), List.getElem_mem _, atI_nat h0 ?_⟩
  rw [List.getElem?_map, List.getElem?_eq_getElem (by omega)]
  rfl
theorem rows_cases (l : List (List Int)) : PyData.eqv (.tuple (l.map eS)) (.tuple []) = l.isEmpty := by
  rw [eqv_nilT]
  cases l <;> rfl
/-! ### wider bodies, more holds -/
theorem kept_mono {r : List Hold} {a b : Body} {s : List Int} (h1 : a.1 ≤ b.1) (h2 : a.2.1 ≤ b.2.1) (h3 : a.2.2.1 ≤ b.2.2.1) (h4 : a.2.2.2 ≤ b.2.2.2) (h : keptL r a s = true) : keptL r b s = true := by
  unfold keptL at h ⊢
  split at h
  · rename_i i j k l
    unfold kept farB sorted2 at h ⊢
    simp only [Bool.and_eq_true, Bool.not_eq_true', Bool.or_eq_false_iff, decide_eq_false_iff_not, decide_eq_true_eq, Bool.not_eq_false'] at h ⊢
    obtain ⟨⟨g0, g1, g2⟩, ⟨g3, g3'⟩, ⟨g4, g4'⟩, ⟨g5, g5'⟩, ⟨g6, g6'⟩, g7, g8⟩ := h
    refine ⟨⟨g0, ?_, ?_⟩, ⟨?_, g3'⟩, ⟨?_, g4'⟩, ⟨?_, g5'⟩, ⟨?_, g6'⟩, ?_, ?_⟩ <;> omega
  · cases h
theorem good_mono {r : List Hold} {a b : Body} {s : List Int} (h1 : a.1 ≤ b.1) (h2 : a.2.1 ≤ b.2.1) (h3 : a.2.2.1 ≤ b.2.2.1) (h4 : a.2.2.2 ≤ b.2.2.2) (h : s ∈ goodS r a) : s ∈ goodS r b := by
  obtain ⟨g1, g2, g3⟩ := mem_good.mp h
  exact mem_good.mpr ⟨g1, g2, kept_mono h1 h2 h3 h4 g3⟩
theorem hd_app {r : List Hold} {h : Hold} {i : Int} (hi : InR r i) : hd (r ++ [h]) i = hd r i := by
  obtain ⟨h0, h1⟩ := hi
  unfold hd
  rw [List.getD_eq_getElem?_getD, List.getD_eq_getElem?_getD, List.getElem?_append_left (by omega)]
theorem kept_app {r : List Hold} {h : Hold} {b : Body} {s : List Int} (hs : ∀ i ∈ s, InR r i) : keptL (r ++ [h]) b s = keptL r b s := by
  match s, hs with
  | [i, j, k, l], hs =>
    have hi := hd_app (h := h) (hs i (by simp))
    have hj := hd_app (h := h) (hs j (by simp))
    have hk := hd_app (h := h) (hs k (by simp))
    have hl := hd_app (h := h) (hs l (by simp))
    show kept _ _ _ _ _ _ = kept _ _ _ _ _ _
    unfold kept farB sorted2 apI roomOk
    simp only [List.all_cons, List.all_nil, hi, hj, hk, hl]
  | [], _ => rfl
  | [_], _ => rfl
  | [_, _], _ => rfl
  | [_, _, _], _ => rfl
  | _ :: _ :: _ :: _ :: _ :: _, _ => rfl
theorem good_app {r : List Hold} {h : Hold} {b : Body} {s : List Int} (hs : s ∈ goodS r b) : s ∈ goodS (r ++ [h]) b := by
  obtain ⟨g1, g2, g3⟩ := mem_good.mp hs
  refine mem_good.mpr ⟨g1, fun i hi => ?_, ?_⟩
  · have := g2 i hi
    rw [List.length_append, List.length_singleton]
    omega
  · rw [kept_app g2]
    exact g3
theorem wk_sub {rows rows' : List (List Int)} (h : ∀ s ∈ rows, s ∈ rows') {n : Nat} {s t : List Int} (k : Wk rows adj1 n s t) : Wk rows' adj1 n s t := k.mono id h fun _ _ _ _ e => e
theorem topd_sub {rows rows' : List (List Int)} (h : ∀ s ∈ rows, s ∈ rows') {s : List Int} {top : Int} {n : Nat} (e : topd rows s top = some n) : ∃ m, topd rows' s top = some m ∧ m ≤ n := by
  obtain ⟨⟨g, g1, g2⟩, _⟩ := topd_some.mp e
  obtain ⟨m, hm, hd⟩ := isT_ex (wk_sub h g1.1) g2
  exact ⟨m, topd_some.mpr hd, hm⟩
theorem topd_none_sub {rows rows' : List (List Int)} (h : ∀ s ∈ rows, s ∈ rows') {s : List Int} {top : Int} (e : topd rows' s top = none) : topd rows s top = none := by
  cases e2 : topd rows s top with
  | none => rfl
  | some n =>
    obtain ⟨m, hm, _⟩ := topd_sub h e2
    rw [e] at hm
    cases hm
theorem dist_sub {rows rows' : List (List Int)} (h : ∀ s ∈ rows, s ∈ rows') {s t : List Int} {n : Nat} (e : dist rows adj1 s t = some n) : ∃ m, dist rows' adj1 s t = some m ∧ m ≤ n := dist_le (wk_sub h (dist_some.mp e).1)
/-! ### barriers -/
theorem comp_self {r : List Hold} {b : Body} {s : List Int} (hs : s ∈ goodS r b) : s ∈ comp r b s := mem_comp.mpr ⟨0, .nil hs⟩
theorem comp_len {r : List Hold} {b : Body} {s : List Int} (h : r.length ≤ 7) : (comp r b s).length ≤ 2401 := Nat.le_trans (List.length_filter_le _ _) (good_len r b h)
theorem comp_good {r : List Hold} {b : Body} {s t : List Int} (h : t ∈ comp r b s) : t ∈ goodS r b := (List.mem_filter.mp h).1
theorem comp_same {r : List Hold} {b : Body} {s t : List Int} (h : t ∈ comp r b s) : comp r b s = comp r b t := (comp_eq (comp_good h)).mpr (mem_comp.mp h)
theorem topd_comp {r : List Hold} {b : Body} {s t : List Int} {top : Int} (h : t ∈ comp r b s) (e : topd (goodS r b) s top = none) : topd (goodS r b) t top = none := topd_none.mpr fun g hg => topd_none.mp e g ((mem_comp.mp h).trans hg)
theorem asc_iff {l : List (List Int)} : ascB l = true ↔ l.Pairwise (· < ·) := by
  unfold ascB
  induction l with
  | nil => simp
  | cons x l ih =>
    cases l with
    | nil => simp
    | cons y l =>
      have e : (((x :: y :: l).zip ((x :: y :: l).drop 1)).all fun p => decide (p.1 < p.2)) = (decide (x < y) && (((y :: l).zip ((y :: l).drop 1)).all fun p => decide (p.1 < p.2))) := rfl
      rw [e, Bool.and_eq_true, ih, decide_eq_true_eq]
      refine Iff.trans ?_ (List.pairwise_cons (a := x) (l := y :: l)).symm
      constructor
      · rintro ⟨h1, h2⟩
        refine ⟨fun z hz => ?_, h2⟩
        rcases List.mem_cons.mp hz with rfl | hz
        · exact h1
        · exact List.lt_trans h1 ((List.pairwise_cons.mp h2).1 z hz)
      · exact fun h => ⟨h.1 y (by simp), h.2⟩
structure IsBarP (r : List Hold) (b : Body) (s : List Int) (top : Int) (l : List (List Int)) : Prop where
  asc : l.Pairwise (· < ·)
  mem : s ∈ l
  no : ∀ x ∈ l, tops x top = false
  cl : ∀ x ∈ l, ∀ t ∈ nbr r b x, t ∈ l
theorem isBarL_iff {r : List Hold} {b : Body} {s : List Int} {top : Int} {l : List (List Int)} : isBarL r b s top l = true ↔ IsBarP r b s top l := by
  unfold isBarL
  simp only [Bool.and_eq_true, asc_iff, inB_iff, Bool.not_eq_true', List.any_eq_false, List.all_eq_true]
  constructor
  · rintro ⟨h1, h2, h3, h4⟩
    exact ⟨h1, h2, fun x hx => by have := h3 x hx; simpa using this, h4⟩
  · rintro ⟨h1, h2, h3, h4⟩
    exact ⟨h1, h2, fun x hx => by rw [h3 x hx]; decide, h4⟩
theorem IsBarP.all {r : List Hold} {b : Body} {s : List Int} {top : Int} {l : List (List Int)} (h : IsBarP r b s top l) {t : List Int} (ht : Rch (goodS r b) adj1 s t) : t ∈ l := by
  obtain ⟨n, hw⟩ := ht
  induction n generalizing t with
  | zero =>
    rw [← hw.zero]
    exact h.mem
  | succ n ih =>
    obtain ⟨u, h1, h2⟩ := hw.succ
    exact h.cl u (ih h1) t (mem_nbr.mpr ⟨hw.lst, h2⟩)
theorem IsBarP.none {r : List Hold} {b : Body} {s : List Int} {top : Int} {l : List (List Int)} (h : IsBarP r b s top l) : topd (goodS r b) s top = none := topd_none.mpr fun g hg => h.no g (h.all hg)
theorem bar_comp {r : List Hold} {b : Body} {s : List Int} {top : Int} (hs : s ∈ goodS r b) (h : topd (goodS r b) s top = none) : IsBarP r b s top (comp r b s) := ⟨comp_asc r b s, comp_self hs, fun x hx => topd_none.mp h x (mem_comp.mp hx), fun x hx t ht => mem_comp.mpr ((mem_comp.mp hx).step (mem_nbr.mp ht).1 (mem_nbr.mp ht).2)⟩
theorem barO_some {r : List Hold} {b : Body} {s : List Int} {top : Int} (h : topd (goodS r b) s top = none) : barO r b s top = some (comp r b s) := by
  unfold barO
  rw [h]
  rfl
theorem barO_none {r : List Hold} {b : Body} {s : List Int} {top : Int} {n : Nat} (h : topd (goodS r b) s top = some n) : barO r b s top = none := by
  unfold barO
  rw [h]
  rfl
theorem climbO_none {rows : List (List Int)} {s : List Int} {top : Int} {o : Option (List (List Int))} (h : ClimbO rows s top o) (e : topd rows s top = none) : o = none := by
  cases o with
  | none => rfl
  | some l =>
    obtain ⟨g, _, _, h3⟩ := h
    rw [e] at h3
    cases h3
theorem climbO_some {rows : List (List Int)} {s : List Int} {top : Int} {o : Option (List (List Int))} {n : Nat} (h : ClimbO rows s top o) (e : topd rows s top = some n) : ∃ l g, o = some l ∧ SPath rows s g l ∧ tops g top = true ∧ n = l.length - 1 := by
  cases o with
  | none =>
    have h : topd rows s top = none := h
    rw [h] at e
    cases e
  | some l =>
    obtain ⟨g, h1, h2, h3⟩ := h
    rw [e] at h3
    exact ⟨l, g, rfl, h1, h2, Option.some.inj h3⟩
end WL

set_option maxRecDepth 100000
set_option maxHeartbeats 1000000
namespace WL
open PySem PySem.Spec PyProof.Rows L2
structure Box (P : Prop) : Prop where
  get : P
theorem join {P G : Prop} (a : P) (b : Box P → G) : G := b ⟨a⟩
theorem eqv_bool (b c : Bool) : PyData.eqv (.bool b) (.bool c) = (b == c) := by rw [PyData.eqv]
theorem r_neB {Q : AV → Prop} {b c : Bool} (h : Q (.c (dB (!(b == c))))) : gNe (.c (dB b)) (.c (dB c)) Q := r_ne rfl rfl ⟨rfl, rfl, Nat.zero_le _⟩ (by rw [eqv_bool]; exact h)
theorem r_eqB {Q : AV → Prop} {b c : Bool} (h : Q (.c (dB (b == c)))) : gEq (.c (dB b)) (.c (dB c)) Q := r_eq rfl rfl ⟨rfl, rfl, Nat.zero_le _⟩ (by rw [eqv_bool]; exact h)
theorem eqv_rowsT (a b : List (List Int)) : PyData.eqv (.tuple (a.map eS)) (.tuple (b.map eS)) = decide (a = b) := by rw [PyData.eqv, eqv_rows]
theorem r_neT {Q : AV → Prop} {a b : List (List Int)} (h : Q (.c (dB (!decide (a = b))))) : gNe (.c (.p (.tuple (a.map eS)))) (.c (.p (.tuple (b.map eS)))) Q := r_ne rfl rfl ⟨plain_rowsT a, plain_rowsT b, Nat.le_trans (depth_rowsT a) (by decide)⟩ (by rw [eqv_rowsT]; exact h)
theorem r_eqT {Q : AV → Prop} {a b : List (List Int)} (h : Q (.c (dB (decide (a = b))))) : gEq (.c (.p (.tuple (a.map eS)))) (.c (.p (.tuple (b.map eS)))) Q := r_eq rfl rfl ⟨plain_rowsT a, plain_rowsT b, Nat.le_trans (depth_rowsT a) (by decide)⟩ (by rw [eqv_rowsT]; exact h)
theorem r_eqT0 {Q : AV → Prop} {a : List (List Int)} (h : Q (.c (dB a.isEmpty))) : gEq (.c (.p (.tuple (a.map eS)))) (.c (.p (.tuple []))) Q := r_eq rfl rfl ⟨plain_rowsT a, rfl, Nat.le_trans (depth_rowsT a) (by decide)⟩ (by rw [rows_cases]; exact h)
theorem r_neT0 {Q : AV → Prop} {a : List (List Int)} (h : Q (.c (dB (!a.isEmpty)))) : gNe (.c (.p (.tuple (a.map eS)))) (.c (.p (.tuple []))) Q := r_ne rfl rfl ⟨plain_rowsT a, rfl, Nat.le_trans (depth_rowsT a) (by decide)⟩ (by rw [rows_cases]; exact h)
theorem r_neL0 {Q : AV → Prop} {x : AV} {a : List (List Int)} (e : x.any = .p (.list (a.map eS))) (h : Q (.c (dB (!a.isEmpty)))) : gNe x (.f (.p (.list []))) Q := r_ne e rfl ⟨plain_lst (plain_rows _), rfl, Nat.le_trans (depth_lst (n := 2) fun z hz => by
  obtain ⟨u, _, rfl⟩ := List.mem_map.mp hz
  exact depth_eS u) (by decide)⟩ (by
  rw [eqv_nil]
  have e2 : (a.map eS).isEmpty = a.isEmpty := by cases a <;> rfl
  rw [e2]
  exact h)
theorem eN_inj {a b : Option Nat} : PyData.eqv (eN a) (eN b) = decide (a = b) := by
  cases a with
  | none =>
    cases b with
    | none => rfl
    | some m => rfl
  | some n =>
    cases b with
    | none => rfl
    | some m =>
      show PyData.eqv (.int n) (.int m) = _
      rw [eqv_int]
      by_cases h : n = m
      · rw [h]; simp
      · rw [decide_eq_false (by omega), decide_eq_false (by simpa using h)]
theorem plain_eN (a : Option Nat) : (eN a).plain = true := by cases a <;> rfl
theorem depth_eN (a : Option Nat) : (eN a).depth ≤ 1 := by
  cases a with
  | none => exact Nat.zero_le _
  | some n => exact depth_int n
theorem r_neN {Q : AV → Prop} {a b : Option Nat} (h : Q (.c (dB (!decide (a = b))))) : gNe (.c (.p (eN a))) (.c (.p (eN b))) Q := r_ne rfl rfl ⟨plain_eN a, plain_eN b, Nat.le_trans (depth_eN a) (by decide)⟩ (by rw [eN_inj]; exact h)
theorem r_eqN {Q : AV → Prop} {a b : Option Nat} (h : Q (.c (dB (decide (a = b))))) : gEq (.c (.p (eN a))) (.c (.p (eN b))) Q := r_eq rfl rfl ⟨plain_eN a, plain_eN b, Nat.le_trans (depth_eN a) (by decide)⟩ (by rw [eN_inj]; exact h)
theorem isN_eN (a : Option Nat) : isN (D.p (eN a)) = some a.isNone := by cases a <;> rfl
theorem isN_eW (a : Option (List (List Int))) : isN (D.p (eW a)) = some a.isNone := by cases a <;> rfl
theorem isN_eI (a : Option (List Int)) : isN (D.p (eI a)) = some a.isNone := by cases a <;> rfl
theorem isN_eO (a : Option (List Int)) : isN (D.p (eO a)) = some a.isNone := by cases a <;> rfl
theorem r_isEN {Q : AV → Prop} {a : Option Nat} (h : Q (.c (dB a.isNone))) : gIs (.c (.p (eN a))) (.c dN) Q := r_is (isN_eN a) h
theorem r_isEW {Q : AV → Prop} {a : Option (List (List Int))} (h : Q (.c (dB a.isNone))) : gIs (.c (.p (eW a))) (.c dN) Q := r_is (isN_eW a) h
theorem r_isEI {Q : AV → Prop} {a : Option (List Int)} (h : Q (.c (dB a.isNone))) : gIs (.c (.p (eI a))) (.c dN) Q := r_is (isN_eI a) h
theorem r_isEO {Q : AV → Prop} {a : Option (List Int)} (h : Q (.c (dB a.isNone))) : gIs (.c (.p (eO a))) (.c dN) Q := r_is (isN_eO a) h
theorem r_inEN {Q : AV → Prop} {a : Option Nat} (h : Q (.c (dB (!a.isNone)))) : gIsNot (.c (.p (eN a))) (.c dN) Q := r_isNot (isN_eN a) h
theorem r_inEW {Q : AV → Prop} {a : Option (List (List Int))} (h : Q (.c (dB (!a.isNone)))) : gIsNot (.c (.p (eW a))) (.c dN) Q := r_isNot (isN_eW a) h
theorem r_inEI {Q : AV → Prop} {a : Option (List Int)} (h : Q (.c (dB (!a.isNone)))) : gIsNot (.c (.p (eI a))) (.c dN) Q := r_isNot (isN_eI a) h
theorem r_inEO {Q : AV → Prop} {a : Option (List Int)} (h : Q (.c (dB (!a.isNone)))) : gIsNot (.c (.p (eO a))) (.c dN) Q := r_isNot (isN_eO a) h
theorem q_inS {Q : AV → Prop} {ng : Bool} {s : List Int} {y : AV} {l : List (List Int)} (h : Q (.c (dB (if ng then !inB l s else inB l s)))) (e : y.any = .p (.list (l.map eS)) ∨ y.any = .p (.tuple (l.map eS)) := by first | exact .inl rfl | exact .inr rfl) : gInP ng (.c (.p (eS s))) y Q := r_inS e h
/-! items, without unfolding -/
section
variable {Q : AV → Prop} {b : Body} {h : Hold} {r : List Hold} {i j k l : Int} {p0 p1 p2 p3 : PyData} {ps : List PyData}
theorem q_xB0 (q : Q (.c (dI (b.1)))) : gIx (.c (.p (eB b))) (.c (dI 0)) Q := r_ixT rfl at0 q
theorem q_xB1 (q : Q (.c (dI (b.2.1)))) : gIx (.c (.p (eB b))) (.c (dI 1)) Q := r_ixT rfl at1 q
theorem q_xB2 (q : Q (.c (dI (b.2.2.1)))) : gIx (.c (.p (eB b))) (.c (dI 2)) Q := r_ixT rfl at2 q
theorem q_xB3 (q : Q (.c (dI (b.2.2.2)))) : gIx (.c (.p (eB b))) (.c (dI 3)) Q := r_ixT rfl at3 q
theorem q_xH0 (q : Q (.c (dI (h.1)))) : gIx (.c (.p (eH h))) (.c (dI 0)) Q := r_ixT rfl at0 q
theorem q_xH1 (q : Q (.c (dI (h.2.1)))) : gIx (.c (.p (eH h))) (.c (dI 1)) Q := r_ixT rfl at1 q
theorem q_xH2 (q : Q (.c (dI (h.2.2)))) : gIx (.c (.p (eH h))) (.c (dI 2)) Q := r_ixT rfl at2 q
theorem q_xS0 (q : Q (.c (dI i))) : gIx (.c (.p (eS [i, j, k, l]))) (.c (dI 0)) Q := r_ixT rfl at0 q
theorem q_xS1 (q : Q (.c (dI j))) : gIx (.c (.p (eS [i, j, k, l]))) (.c (dI 1)) Q := r_ixT rfl at1 q
theorem q_xS2 (q : Q (.c (dI k))) : gIx (.c (.p (eS [i, j, k, l]))) (.c (dI 2)) Q := r_ixT rfl at2 q
theorem q_xS3 (q : Q (.c (dI l))) : gIx (.c (.p (eS [i, j, k, l]))) (.c (dI 3)) Q := r_ixT rfl at3 q
theorem q_xR (q : Q (.c (.p (eH (hd r i))))) (hi : InR r i := by assumption) : gIx (.c (.p (eR r))) (.c (dI i)) Q := r_ixT rfl (at_eR hi) q
theorem q_xT0 (q : Q (.c (.p p0))) : gIx (.c (.p (.tuple (p0 :: ps)))) (.c (dI 0)) Q := r_ixT rfl at0 q
theorem q_xT1 (q : Q (.c (.p p1))) : gIx (.c (.p (.tuple (p0 :: p1 :: ps)))) (.c (dI 1)) Q := r_ixT rfl at1 q
theorem q_xT2 (q : Q (.c (.p p2))) : gIx (.c (.p (.tuple (p0 :: p1 :: p2 :: ps)))) (.c (dI 2)) Q := r_ixT rfl at2 q
theorem q_xL0 (q : Q (.c (.p p0))) : gIx (.c (.p (.list (p0 :: ps)))) (.c (dI 0)) Q := r_ixL rfl at0 q
theorem q_xL1 (q : Q (.c (.p p1))) : gIx (.c (.p (.list (p0 :: p1 :: ps)))) (.c (dI 1)) Q := r_ixL rfl at1 q
theorem q_xL2 (q : Q (.c (.p p2))) : gIx (.c (.p (.list (p0 :: p1 :: p2 :: ps)))) (.c (dI 2)) Q := r_ixL rfl at2 q
end
/-! ### k13: barriers as a whole -/
def sp__law_barred : DSp := fun _ ds Q _ => ∃ (r : List Hold) (b : Body) (s : List Int) (top : Int), ds = [.p (eR r), .p (eB b), .p (eS s), dI top, .p (.tuple ((comp r b s).map eS))] ∧ RockOk r ∧ r.length ≤ 5 ∧ BodyOk b ∧ s ∈ goodS r b ∧ InR r top ∧ topd (goodS r b) s top = none ∧ Q (dB true)
theorem bar_cut {r : List Hold} {b : Body} {s : List Int} {top : Int} : isBarL r b s top (comp r b s).dropLast = false := by
  cases h : isBarL r b s top (comp r b s).dropLast with
  | false => rfl
  | true =>
    exfalso
    have hb := isBarL_iff.mp h
    have ne : comp r b s ≠ [] := fun e => by
      have := hb.mem
      rw [e] at this
      cases this
    have nd := asc_nodup (comp_asc r b s)
    obtain ⟨d, hd⟩ : ∃ d, (comp r b s).getLast? = some d := ⟨_, List.getLast?_eq_some_getLast ne⟩
    obtain ⟨l, hl⟩ := List.getLast?_eq_some_iff.mp hd
    have hm : d ∈ (comp r b s).dropLast := hb.all (mem_comp.mp (by rw [hl]; simp))
    rw [hl] at nd hm
    rw [List.dropLast_concat] at hm
    exact (List.nodup_append.mp nd).2.2 d hm d (by simp) rfl
def moreL (r : List Hold) (b : Body) (c d : List (List Int)) : List (List Int) := (goodS r b).filter fun x => decide (x ∈ c) || decide (x ∈ d)
theorem mem_more {r : List Hold} {b : Body} {s t x : List Int} : x ∈ moreL r b (comp r b s) (comp r b t) ↔ x ∈ comp r b s ∨ x ∈ comp r b t := by
  unfold moreL
  rw [List.mem_filter, Bool.or_eq_true, decide_eq_true_eq, decide_eq_true_eq]
  constructor
  · exact fun h => h.2
  · rintro (h | h)
    · exact ⟨comp_good h, .inl h⟩
    · exact ⟨comp_good h, .inr h⟩
theorem srt_more {r : List Hold} {b : Body} {s t : List Int} (ht : t ∉ comp r b s) : srtD ((comp r b s).map eS ++ (comp r b t).map eS) = (moreL r b (comp r b s) (comp r b t)).map eS := by
  rw [← List.map_append]
  refine srt_is ((good_asc r b).filter _) (List.nodup_append.mpr ⟨asc_nodup (comp_asc r b s), asc_nodup (comp_asc r b t), fun x hx y hy e => ?_⟩) fun x => by rw [List.mem_append, mem_more]
  subst e
  exact ht (mem_comp.mpr ((mem_comp.mp hx).trans ((mem_comp.mp hy).symm adj1_symm)))
theorem bar_more {r : List Hold} {b : Body} {s t : List Int} {top : Int} (hs : s ∈ goodS r b) (ht : t ∈ goodS r b) (e : topd (goodS r b) s top = none) : isBarL r b s top (moreL r b (comp r b s) (comp r b t)) = (topd (goodS r b) t top).isNone := by
  cases e2 : topd (goodS r b) t top with
  | none =>
    refine isBarL_iff.mpr ⟨(good_asc r b).filter _, mem_more.mpr (.inl (comp_self hs)), fun x hx => ?_, fun x hx u hu => ?_⟩
    · rcases mem_more.mp hx with hx | hx
      · exact topd_none.mp e x (mem_comp.mp hx)
      · exact topd_none.mp e2 x (mem_comp.mp hx)
    · have hu := mem_nbr.mp hu
      rcases mem_more.mp hx with hx | hx
      · exact mem_more.mpr (.inl (mem_comp.mpr ((mem_comp.mp hx).step hu.1 hu.2)))
      · exact mem_more.mpr (.inr (mem_comp.mpr ((mem_comp.mp hx).step hu.1 hu.2)))
  | some n =>
    cases h : isBarL r b s top (moreL r b (comp r b s) (comp r b t)) with
    | false => rfl
    | true =>
      exfalso
      have hb := isBarL_iff.mp h
      obtain ⟨⟨g, h1, h2⟩, _⟩ := topd_some.mp e2
      have := hb.no g (mem_more.mpr (.inr (mem_comp.mpr ⟨n, h1.1⟩)))
      rw [h2] at this
      cases this
theorem more_len {r : List Hold} {b : Body} {c d : List (List Int)} (h : r.length ≤ 7) : (moreL r b c d).length ≤ 2401 := Nat.le_trans (List.length_filter_le _ _) (good_len r b h)
theorem moves_in {r : List Hold} {b : Body} {s x : List Int} (hx : x ∈ comp r b s) : ((nbr r b x).filter fun t => !inB (comp r b s) t) = [] := by
  rw [List.filter_eq_nil_iff]
  intro t ht
  have hu := mem_nbr.mp ht
  rw [inB_iff.mpr (mem_comp.mpr ((mem_comp.mp hx).step hu.1 hu.2))]
  decide
theorem good_len5 (r : List Hold) (b : Body) (h : r.length ≤ 5) : (goodS r b).length ≤ 625 := by
  refine Nat.le_trans (List.length_filter_le _ _) ?_
  rw [rowsN_count]
  exact Nat.pow_le_pow_left h 4
theorem two_len {r : List Hold} {b : Body} {s t : List Int} (h : r.length ≤ 5) (ht : t ∉ comp r b s) : (comp r b s).length + (comp r b t).length ≤ 625 := by
  rw [← List.length_append]
  refine Nat.le_trans (nodup_leG (rows := goodS r b) (List.nodup_append.mpr ⟨asc_nodup (comp_asc r b s), asc_nodup (comp_asc r b t), fun x hx y hy e => ?_⟩) fun x hx => (List.mem_append.mp hx).elim comp_good comp_good) (good_len5 r b h)
  subst e
  exact ht (mem_comp.mpr ((mem_comp.mp hx).trans ((mem_comp.mp hy).symm adj1_symm)))
theorem bar_false {r : List Hold} {b : Body} {s : List Int} {top : Int} {m : Nat} {l : List (List Int)} (e : topd (goodS r b) s top = some m) : isBarL r b s top l = false := by
  cases h : isBarL r b s top l with
  | false => rfl
  | true =>
    have := (isBarL_iff.mp h).none
    rw [e] at this
    cases this
theorem lc_body {T : Tgt} {te : DE} {Γ : List SV} {P : List PyData → Prop} {b : Body} (Rl : Int → Int → Prop) (h : ∀ a : Int, ∃ Γ2, dTgt T (.int a) Γ = some Γ2 ∧ ∀ R : PyData → Prop, (∀ z, Rl a z → R (.int z)) → te Γ2 (fun y => y.dat R) (fun _ => False))
    (hP : ∀ c : Body, Rl b.1 c.1 → Rl b.2.1 c.2.1 → Rl b.2.2.1 c.2.2.1 → Rl b.2.2.2 c.2.2.2 → P [.int c.1, .int c.2.1, .int c.2.2.1, .int c.2.2.2]) : dLcL T dYes te Γ P [.int b.1, .int b.2.1, .int b.2.2.1, .int b.2.2.2] [] := by
  refine lc_rel (enc := PyData.int) (dec := PyData.int) (as := [b.1, b.2.1, b.2.2.1, b.2.2.2]) (p := fun _ => true) Rl (fun a _ => ?_) (by show 0 + 4 ≤ 100000; decide) fun zs hl hz => ?_
  · obtain ⟨Γ2, h1, h2⟩ := h a
    exact ⟨Γ2, h1, fun Q q => q, fun _ => h2⟩
  · have hl : zs.length = 4 := hl
    match zs, hl with
    | [z0, z1, z2, z3], _ =>
      exact hP (z0, z1, z2, z3) (hz 0 b.1 z0 rfl rfl) (hz 1 b.2.1 z1 rfl rfl) (hz 2 b.2.2.1 z2 rfl rfl) (hz 3 b.2.2.2 z3 rfl rfl)
theorem fold_eB (c : Body) : PyData.tuple [.int c.1, .int c.2.1, .int c.2.2.1, .int c.2.2.2] = eB c := rfl
theorem goodS_dec {r : List Hold} {b : Body} {s : List Int} (h4 : s.length = 4) (hs : ∀ i ∈ s, 0 ≤ i ∧ i < (r.length : Int)) : goodOne r b (eS s) = true ↔ s ∈ goodS r b := by
  rw [goodOne_eS h4 hs, mem_good]
  exact ⟨fun h => ⟨h4, hs, h⟩, fun h => h.2.2⟩
end WL

set_option maxRecDepth 100000
set_option maxHeartbeats 1000000
namespace WL
open PySem PySem.Spec PyProof.Rows L2
/-! ### tops as a whole -/
theorem q_tops {Q : AV → Prop} {s : List Int} {top : Int} (h : Q (.c (dB (tops s top)))) : gInP false (.c (dI top)) (.c (.p (.tuple (cutD (s.map PyData.int) none (some 2))))) Q := by
  have e : cutD (s.map PyData.int) none (some 2) = (s.take 2).map PyData.int := cut_to PyData.int s 2
  rw [e]
  refine r_inT rfl rfl rfl (plain_ints _) (Nat.le_trans (depth_int _) (by decide)) ?_
  have e2 : (((s.take 2).map PyData.int).any fun z => PyData.eqv z (.int top)) = tops s top := by
    rw [List.any_map]
    unfold tops
    congr 1
  rw [e2]
  exact h
theorem foldl_min_le : ∀ (ns : List Int) (n : Int), ns.foldl min n ≤ n ∧ (∀ x ∈ ns, ns.foldl min n ≤ x) ∧ ns.foldl min n ∈ n :: ns
  | [], n => ⟨Int.le_refl _, (fun _ h => nomatch h), by simp⟩
  | x :: ns, n => by
    obtain ⟨h1, h2, h3⟩ := foldl_min_le ns (min n x)
    refine ⟨Int.le_trans h1 (Int.min_le_left _ _), fun y hy => ?_, ?_⟩
    · rcases List.mem_cons.mp hy with rfl | hy
      · exact Int.le_trans h1 (Int.min_le_right _ _)
      · exact h2 y hy
    · show ns.foldl min (min n x) ∈ n :: x :: ns
      rcases List.mem_cons.mp h3 with h | h
      · rw [h]
        by_cases q : n ≤ x
        · rw [Int.min_eq_left q]; simp
        · rw [Int.min_eq_right (by omega)]; simp
      · exact List.mem_cons_of_mem _ (List.mem_cons_of_mem _ h)
noncomputable def lenI (rows : List (List Int)) (s t : List Int) : Int := ((dist rows adj1 s t).getD 0 : Nat)
noncomputable def lens (r : List Hold) (b : Body) (s : List Int) (top : Int) : List Int := ((comp r b s).filter fun t => tops t top).map (lenI (goodS r b) s)
theorem lens_eN (r : List Hold) (b : Body) (s : List Int) (top : Int) : ((comp r b s).filter fun t => tops t top).map (fun t => eN (gd r b s t)) = (lens r b s top).map PyData.int := by
  unfold lens
  rw [List.map_map]
  refine List.map_congr_left fun t ht => ?_
  have hm := mem_comp.mp (List.mem_filter.mp ht).1
  cases e : gd r b s t with
  | none => exact absurd e (rch_dist.mp hm)
  | some n =>
    show PyData.int n = PyData.int (lenI (goodS r b) s t)
    unfold lenI
    have e : dist (goodS r b) adj1 s t = some n := e
    rw [e]
    rfl
theorem lens_none {r : List Hold} {b : Body} {s : List Int} {top : Int} (e : topd (goodS r b) s top = none) : lens r b s top = [] := by
  unfold lens
  have : (comp r b s).filter (fun t => tops t top) = [] := by
    rw [List.filter_eq_nil_iff]
    intro t ht
    rw [topd_none.mp e t (mem_comp.mp ht)]
    decide
  rw [this]
  rfl
theorem lens_some {r : List Hold} {b : Body} {s : List Int} {top : Int} {m : Nat} (e : topd (goodS r b) s top = some m) : ∃ n ns, lens r b s top = n :: ns ∧ ns.foldl min n = (m : Int) := by
  obtain ⟨⟨g, g1, g2⟩, g3⟩ := topd_some.mp e
  have hg : (m : Int) ∈ lens r b s top := List.mem_map.mpr ⟨g, List.mem_filter.mpr ⟨mem_comp.mpr ⟨m, g1.1⟩, g2⟩, by
    unfold lenI
    rw [dist_some.mpr g1]
    rfl⟩
  have hall : ∀ x ∈ lens r b s top, (m : Int) ≤ x := fun x hx => by
    obtain ⟨t, ht, rfl⟩ := List.mem_map.mp hx
    obtain ⟨h1, h2⟩ := List.mem_filter.mp ht
    cases e2 : dist (goodS r b) adj1 s t with
    | none => exact absurd e2 (rch_dist.mp (mem_comp.mp h1))
    | some k =>
      have := g3 t k (dist_some.mp e2).1 h2
      unfold lenI
      rw [e2]
      show (m : Int) ≤ (k : Int)
      omega
  cases hl : lens r b s top with
  | nil => rw [hl] at hg; cases hg
  | cons n ns =>
    rw [hl] at hg hall
    refine ⟨n, ns, rfl, ?_⟩
    obtain ⟨h1, h2, h3⟩ := foldl_min_le ns n
    have a := hall _ h3
    have b2 : ns.foldl min n ≤ m := by
      rcases List.mem_cons.mp hg with h | h
      · rw [h]; exact h1
      · exact h2 _ h
    omega
theorem lens_len {r : List Hold} {b : Body} {s : List Int} {top : Int} (h : r.length ≤ 7) : (lens r b s top).length ≤ 2401 := by
  unfold lens
  rw [List.length_map]
  exact Nat.le_trans (List.length_filter_le _ _) (comp_len h)
theorem spath_len {rows : List (List Int)} {s g : List Int} {l : List (List Int)} (h : SPath rows s g l) : 0 < l.length := List.length_pos_iff.mpr fun z => by
  have := h.hd
  rw [z] at this
  cases this
theorem spath_any {r : List Hold} {b : Body} {s g : List Int} {l : List (List Int)} (h : SPath (goodS r b) s g l) : anyWay r b (.tuple (l.map eS)) = true := by
  rw [anyWay_tup h.inr, h.ok, Bool.and_true]
  have := spath_len h
  cases l with
  | nil => cases this
  | cons => rfl
theorem spath_way {r : List Hold} {b : Body} {s g : List Int} {l : List (List Int)} (h : SPath (goodS r b) s g l) : isWay r b s g (.tuple (l.map eS)) = true := by
  rw [isWay_tup (spath_any h), hd_dec h.hd, lt_dec h.lt, decide_eq_true rfl, decide_eq_true rfl]
  rfl
theorem pairs_take {α : Type} {adj : α → α → Bool} : ∀ (l : List α) (k : Nat), pairsOk adj l = true → pairsOk adj (l.take k) = true
  | [], k, _ => by rw [List.take_nil]; rfl
  | [x], 0, _ => rfl
  | [x], k + 1, _ => by rw [List.take_succ_cons, List.take_nil]; rfl
  | x :: y :: l, 0, _ => rfl
  | x :: y :: l, 1, _ => rfl
  | x :: y :: l, k + 2, h => by
    have h : (adj x y && pairsOk adj (y :: l)) = true := h
    rw [Bool.and_eq_true] at h
    have ih := pairs_take (y :: l) (k + 1) h.2
    rw [List.take_succ_cons, List.take_succ_cons] at *
    show (adj x y && pairsOk adj (y :: l.take k)) = true
    rw [h.1, ih]
    rfl
theorem spath_at {rows : List (List Int)} {s g x : List Int} {l : List (List Int)} {i : Nat} (h : SPath rows s g l) (hi : l[i]? = some x) : Wk rows adj1 i s x := by
  have hlt : i < l.length := by
    by_cases q : i < l.length
    · exact q
    · rw [List.getElem?_eq_none (by omega)] at hi
      cases hi
  cases l with
  | nil => cases hlt
  | cons a l =>
    have ha : a = s := by
      have := h.hd
      simpa using this
    subst ha
    have ht : (a :: l).take (i + 1) = a :: l.take i := List.take_succ_cons
    have hp := pairs_take (a :: l) (i + 1) h.ok
    rw [ht] at hp
    obtain ⟨t, t1, t2⟩ := path_wk (l := l.take i) (s := a) (fun y hy => h.inr y (by rw [← ht] at hy; exact (List.take_sublist _ _).mem hy)) hp
    have hl : (l.take i).length = i := by rw [List.length_take]; rw [List.length_cons] at hlt; omega
    rw [hl] at t2
    have et : t = x := by
      rw [← ht, List.getLast?_take] at t1
      rw [if_neg (by omega)] at t1
      simp only [Nat.add_sub_cancel] at t1
      rw [hi] at t1
      simpa using t1.symm
    rw [← et]
    exact t2
theorem spath_climb {r : List Hold} {b : Body} {s g : List Int} {top : Int} {l : List (List Int)} (h : SPath (goodS r b) s g l) (ht : tops g top = true) (e : topd (goodS r b) s top = some (l.length - 1)) : isClimb r b s top (.tuple (l.map eS)) = true := by
  rw [isClimb_tup (spath_any h) h.hd h.lt, decide_eq_true rfl, ht, Bool.true_and, Bool.true_and]
  have hn : (l.dropLast.any fun x => tops x top) = false := by
    rw [List.any_eq_false]
    intro x hx hxt
    obtain ⟨i, hi⟩ := List.getElem?_of_mem hx
    have hil : i < l.dropLast.length := by
      by_cases q : i < l.dropLast.length
      · exact q
      · rw [List.getElem?_eq_none (by omega)] at hi
        cases hi
    rw [List.length_dropLast] at hil
    have hi2 : l[i]? = some x := by
      rw [List.getElem?_dropLast] at hi
      rw [if_pos (by omega)] at hi
      exact hi
    have := (topd_some.mp e).2 x i (spath_at h hi2) hxt
    omega
  rw [hn]
  rfl
theorem topd_zero {rows : List (List Int)} {s : List Int} {top : Int} (hs : s ∈ rows) : topd rows s top = some 0 ↔ tops s top = true := by
  rw [topd_some]
  constructor
  · rintro ⟨⟨g, g1, g2⟩, _⟩
    rw [g1.1.zero]
    exact g2
  · intro h
    exact ⟨⟨s, ⟨.nil hs, fun m hm => absurd hm (Nat.not_lt_zero _)⟩, h⟩, fun _ _ _ _ => Nat.zero_le _⟩
theorem topd_step {rows : List (List Int)} {s t : List Int} {top : Int} {n : Nat} (hs : s ∈ rows) (ht : t ∈ rows) (a : adj1 s t = true) (e : topd rows t top = some n) : ∃ m, topd rows s top = some m ∧ m ≤ n + 1 := by
  obtain ⟨⟨g, g1, g2⟩, _⟩ := topd_some.mp e
  obtain ⟨m, hm, hd⟩ := isT_ex ((Wk.one hs ht a).trans g1.1) g2
  exact ⟨m, topd_some.mpr hd, by omega⟩
theorem topd_near {rows : List (List Int)} {s t : List Int} {top : Int} (hs : s ∈ rows) (ht : t ∈ rows) (a : adj1 s t = true) : (topd rows s top = none ∧ topd rows t top = none) ∨ ∃ m n, topd rows s top = some m ∧ topd rows t top = some n ∧ m ≤ n + 1 ∧ n ≤ m + 1 := by
  cases e : topd rows t top with
  | none =>
    refine .inl ⟨?_, rfl⟩
    cases e2 : topd rows s top with
    | none => rfl
    | some m =>
      obtain ⟨k, hk, _⟩ := topd_step ht hs (by rw [adj1_symm]; exact a) e2
      rw [e] at hk
      cases hk
  | some n =>
    obtain ⟨m, hm, h1⟩ := topd_step hs ht a e
    obtain ⟨k, hk, h2⟩ := topd_step ht hs (by rw [adj1_symm]; exact a) hm
    rw [e] at hk
    cases hk
    exact .inr ⟨m, n, hm, rfl, h1, h2⟩
def sp__law_top : DSp := fun _ ds Q _ => ∃ (r : List Hold) (b : Body) (s : List Int) (top : Int), ds = [.p (eR r), .p (eB b), .p (eS s), dI top] ∧ RockOk r ∧ BodyOk b ∧ s ∈ goodS r b ∧ InR r top ∧ Q (dB true)
theorem fold_app (r : List Hold) (h : Hold) : PyData.tuple (r.map eH ++ [eH h]) = eR (r ++ [h]) := by
  unfold eR
  rw [List.map_append]
  rfl
theorem alike_intsA (ns : List Int) : PySem.W.AlikeAll (ns.map .int) := ⟨fun x hx y hy => by
  obtain ⟨a, _, rfl⟩ := List.mem_map.mp hx
  obtain ⟨b, _, rfl⟩ := List.mem_map.mp hy
  rw [PySem.W.alike], fun x hx e => by
  obtain ⟨a, _, rfl⟩ := List.mem_map.mp hx
  cases e⟩
theorem longer_ok {r : List Hold} {z : Int} (h : RockD r) (h1 : 1 ≤ r.length) (h2 : r.length ≤ 6) (z1 : 1 ≤ z := by decide) (z2 : z ≤ 2 := by decide) : RockOk (r ++ [(10, 10, z)]) := ⟨by rw [List.length_append]; omega, by rw [List.length_append, List.length_singleton]; omega, fun a ha => by
  rcases List.mem_append.mp ha with ha | ha
  · obtain ⟨h3, h4, h5⟩ := h.1 a ha
    exact ⟨by omega, by omega, h5⟩
  · obtain rfl : a = (10, 10, z) := by simpa using ha
    exact ⟨⟨show (0 : Int) ≤ 10 by decide, show (10 : Int) ≤ 20 by decide⟩, ⟨show (0 : Int) ≤ 10 by decide, show (10 : Int) ≤ 20 by decide⟩, z1, z2⟩, by
  rw [List.map_append]
  refine List.nodup_append.mpr ⟨h.2, by simp, fun x hx y hy e => ?_⟩
  obtain ⟨a, ha, rfl⟩ := List.mem_map.mp hx
  obtain ⟨_, h4, _⟩ := h.1 a ha
  have hy : y = [10, 10] := by simpa using hy
  rw [hy] at e
  have e2 := congrArg (fun l => (l.drop 1).headD 0) e
  have e3 : a.2.1 = 10 := by simpa using e2
  omega⟩
end WL

set_option maxRecDepth 100000
set_option maxHeartbeats 1000000
namespace WL
open PySem PySem.Spec PyProof.Rows L2
/-! ### two bodies as a whole -/
structure BoxB (P : Body → Prop) : Prop where
  get : ∀ c, BodyOk c → P c
theorem joinB {P : Body → Prop} {G : Prop} (a : ∀ c, BodyOk c → P c) (b : BoxB P → G) : G := b ⟨a⟩
theorem part_nil {r : List Hold} {a b : Body} : partS r a b = [] ↔ goodS r a = goodS r b := by
  unfold partS goodS
  rw [List.filter_eq_nil_iff]
  constructor
  · intro h
    refine List.filter_congr fun s hs => ?_
    have := h s hs
    simpa using this
  · intro h s hs
    have h1 : (s ∈ (rowsN r.length 4).filter (keptL r a)) ↔ s ∈ (rowsN r.length 4).filter (keptL r b) := by rw [h]
    rw [List.mem_filter, List.mem_filter] at h1
    have h2 : keptL r a s = keptL r b s := by
      rw [Bool.eq_iff_iff]
      exact ⟨fun k => (h1.mp ⟨hs, k⟩).2, fun k => (h1.mpr ⟨hs, k⟩).2⟩
    rw [h2]
    simp
theorem part_symm (r : List Hold) (a b : Body) : partS r a b = partS r b a := by
  unfold partS
  refine List.filter_congr fun s _ => ?_
  cases keptL r a s <;> cases keptL r b s <;> rfl
theorem comp_same2 {r : List Hold} {a b : Body} (h : goodS r a = goodS r b) : comp r a = comp r b := by
  funext s
  unfold comp gd
  rw [h]
theorem parts_same {r : List Hold} {a b : Body} (h : goodS r a = goodS r b) : parts r a = parts r b := by
  unfold parts
  rw [comp_same2 h, h]
theorem nbr_same {r : List Hold} {a b : Body} (h : goodS r a = goodS r b) (s : List Int) : nbr r a s = nbr r b s := by
  unfold nbr
  rw [h]
theorem part_parts {r : List Hold} {a b : Body} {p : List Int} {l : List (List Int)} (h : partS r a b = p :: l) : (goodOne r a (eS p) == goodOne r b (eS p)) = false := by
  have hm : p ∈ partS r a b := by rw [h]; simp
  obtain ⟨⟨h1, h2⟩, h3⟩ := mem_partS.mp hm
  rw [goodOne_eS h1 h2, goodOne_eS h1 h2]
  exact beq_eq_false_iff_ne.mpr h3
theorem eqv_eO (a b : Option (List Int)) : PyData.eqv (eO a) (eO b) = decide (a = b) := by
  cases a with
  | none =>
    cases b with
    | none => rfl
    | some m => rfl
  | some n =>
    cases b with
    | none => rfl
    | some m =>
      show PyData.eqv (eS n) (eS m) = _
      rw [eqv_eS]
      by_cases h : n = m
      · rw [h]; simp
      · rw [decide_eq_false h, decide_eq_false (by simpa using h)]
theorem depth_eO (a : Option (List Int)) : (eO a).depth ≤ 2 := by
  cases a with
  | none => exact Nat.zero_le _
  | some n => exact depth_eS n
theorem r_neO {Q : AV → Prop} {a b : Option (List Int)} (h : Q (.c (dB (!decide (a = b))))) : gNe (.c (.p (eO a))) (.c (.p (eO b))) Q := r_ne rfl rfl ⟨plain_eO a, plain_eO b, Nat.le_trans (depth_eO a) (by decide)⟩ (by rw [eqv_eO]; exact h)
theorem eqv_eB (a b : Body) : PyData.eqv (eB a) (eB b) = decide (a = b) := by
  unfold eB
  rw [PyData.eqv, PyData.eqvAll, PyData.eqvAll, PyData.eqvAll, PyData.eqvAll, PyData.eqvAll, eqv_int, eqv_int, eqv_int, eqv_int, Bool.and_true]
  rw [Bool.eq_iff_iff]
  simp only [Bool.and_eq_true, decide_eq_true_eq]
  constructor
  · rintro ⟨h1, h2, h3, h4⟩
    exact Prod.ext h1 (Prod.ext h2 (Prod.ext h3 h4))
  · rintro rfl
    exact ⟨rfl, rfl, rfl, rfl⟩
theorem depth_eB (b : Body) : (eB b).depth ≤ 2 := depth_tup (n := 1) fun x hx => by
  simp only [List.mem_cons, List.not_mem_nil, or_false] at hx
  rcases hx with rfl | rfl | rfl | rfl <;> exact depth_int _
theorem r_eqB4 {Q : AV → Prop} {a b : Body} (h : Q (.c (dB (decide (a = b))))) : gEq (.c (.p (eB a))) (.c (.p (eB b))) Q := r_eq rfl rfl ⟨plain_eB a, plain_eB b, Nat.le_trans (depth_eB a) (by decide)⟩ (by rw [eqv_eB]; exact h)
theorem wider_yes {a c : Body} (h1 : a.1 ≤ c.1) (h2 : a.2.1 ≤ c.2.1) (h3 : a.2.2.1 ≤ c.2.2.1) (h4 : a.2.2.2 ≤ c.2.2.2) : wider c a = true := by
  unfold wider
  rw [decide_eq_true h1, decide_eq_true h2, decide_eq_true h3, decide_eq_true h4]
  rfl
theorem wider_both {a c : Body} (h1 : a.1 ≤ c.1) (h2 : a.2.1 ≤ c.2.1) (h3 : a.2.2.1 ≤ c.2.2.1) (h4 : a.2.2.2 ≤ c.2.2.2) : wider a c = decide (a = c) := by
  rw [Bool.eq_iff_iff]
  unfold wider
  simp only [Bool.and_eq_true, decide_eq_true_eq]
  constructor
  · rintro ⟨g1, g2, g3, g4⟩
    exact Prod.ext (by omega) (Prod.ext (by omega) (Prod.ext (by omega) (by omega)))
  · rintro rfl
    exact ⟨h1, h2, h3, h4⟩
def sp__law_alike : DSp := fun _ ds Q _ => ∃ (r : List Hold) (a b : Body) (top : Int), ds = [.p (eR r), .p (eB a), .p (eB b), .p (.tuple ((goodS r a).map eS)), dI top] ∧ RockOk r ∧ BodyOk a ∧ BodyOk b ∧ InR r top ∧ goodS r a = goodS r b ∧ Q (dB true)
theorem bodyOk_mk {x y z w : Int} (h : (0 ≤ x ∧ x ≤ 20) ∧ (0 ≤ y ∧ y ≤ 20) ∧ (0 ≤ z ∧ z ≤ 20) ∧ 0 ≤ w ∧ w ≤ 20) : BodyOk (x, y, z, w) := h
theorem head_none {α : Type} (l : List α) : l.head?.isNone = l.isEmpty := by cases l <;> rfl
end WL

set_option maxRecDepth 100000
set_option maxHeartbeats 1000000
namespace WL
open PySem PySem.Spec PyProof.Rows L2
/-! ### reaches as a whole -/
def partB (b : Body) (w : Nat) : Int := match w with
  | 0 => b.1
  | 1 => b.2.1
  | 2 => b.2.2.1
  | _ => b.2.2.2
theorem setB_ok {b : Body} {w : Nat} {k : Int} (h : BodyOk b) (h0 : 0 ≤ k) (h1 : k ≤ 20) : BodyOk (setB b w k) := by
  unfold BodyOk at h
  unfold setB
  split
  · exact bodyOk_mk (by omega)
  · exact bodyOk_mk (by omega)
  · exact bodyOk_mk (by omega)
  · exact bodyOk_mk (by omega)
theorem setB_self {b : Body} {w : Nat} : setB b w (partB b w) = b := by
  rcases w with _ | _ | _ | w <;> rfl
theorem setB_mono {r : List Hold} {a b : Body} {w : Nat} {j k : Int} {s : List Int} (hjk : j ≤ k) (h1 : a.1 ≤ b.1 ∨ w = 0) (h2 : a.2.1 ≤ b.2.1 ∨ w = 1) (h3 : a.2.2.1 ≤ b.2.2.1 ∨ w = 2) (h4 : a.2.2.2 ≤ b.2.2.2 ∨ 3 ≤ w) (h : s ∈ goodS r (setB a w j)) : s ∈ goodS r (setB b w k) := by
  rcases w with _ | _ | _ | w
  · exact good_mono (a := (j, a.2.1, a.2.2.1, a.2.2.2)) (b := (k, b.2.1, b.2.2.1, b.2.2.2)) hjk (show a.2.1 ≤ b.2.1 by omega) (show a.2.2.1 ≤ b.2.2.1 by omega) (show a.2.2.2 ≤ b.2.2.2 by omega) h
  · exact good_mono (a := (a.1, j, a.2.2.1, a.2.2.2)) (b := (b.1, k, b.2.2.1, b.2.2.2)) (show a.1 ≤ b.1 by omega) hjk (show a.2.2.1 ≤ b.2.2.1 by omega) (show a.2.2.2 ≤ b.2.2.2 by omega) h
  · exact good_mono (a := (a.1, a.2.1, j, a.2.2.2)) (b := (b.1, b.2.1, k, b.2.2.2)) (show a.1 ≤ b.1 by omega) (show a.2.1 ≤ b.2.1 by omega) hjk (show a.2.2.2 ≤ b.2.2.2 by omega) h
  · exact good_mono (a := (a.1, a.2.1, a.2.2.1, j)) (b := (b.1, b.2.1, b.2.2.1, k)) (show a.1 ≤ b.1 by omega) (show a.2.1 ≤ b.2.1 by omega) (show a.2.2.1 ≤ b.2.2.1 by omega) hjk h
theorem find_least {p : Nat → Bool} {n k : Nat} : (List.range n).find? p = some k ↔ k < n ∧ p k = true ∧ ∀ j, j < k → p j = false := by
  rw [List.find?_range_eq_some]
  constructor
  · rintro ⟨h1, h2, h3⟩
    exact ⟨List.mem_range.mp h2, h1, fun j hj => by simpa using h3 j hj⟩
  · rintro ⟨h1, h2, h3⟩
    exact ⟨h2, List.mem_range.mpr h1, fun j hj => by simpa using h3 j hj⟩
/-- with the reach k the stance is good and there is a way -/
def okAt (r : List Hold) (b : Body) (s : List Int) (top : Int) (w : Nat) (k : Int) : Prop := s ∈ goodS r (setB b w k) ∧ ∃ m, topd (goodS r (setB b w k)) s top = some m
theorem okAt_iff {r : List Hold} {b : Body} {s : List Int} {top : Int} {w : Nat} {k : Int} (hs : s ∈ goodS r b) : (keptL r (setB b w k) s && can r (setB b w k) s top) = true ↔ okAt r b s top w k := by
  rw [Bool.and_eq_true]
  obtain ⟨h1, h2, _⟩ := mem_good.mp hs
  unfold okAt can
  rw [Option.isSome_iff_exists]
  exact ⟨fun h => ⟨mem_good.mpr ⟨h1, h2, h.1⟩, h.2⟩, fun h => ⟨(mem_good.mp h.1).2.2, h.2⟩⟩
theorem okAt_mono {r : List Hold} {a b : Body} {s : List Int} {top : Int} {w : Nat} {j k : Int} (hjk : j ≤ k) (h1 : a.1 ≤ b.1 ∨ w = 0) (h2 : a.2.1 ≤ b.2.1 ∨ w = 1) (h3 : a.2.2.1 ≤ b.2.2.1 ∨ w = 2) (h4 : a.2.2.2 ≤ b.2.2.2 ∨ 3 ≤ w) (h : okAt r a s top w j) : okAt r b s top w k := by
  obtain ⟨g1, m, g2⟩ := h
  have hsub : ∀ x ∈ goodS r (setB a w j), x ∈ goodS r (setB b w k) := fun x hx => setB_mono hjk h1 h2 h3 h4 hx
  obtain ⟨m2, e2, _⟩ := topd_sub hsub g2
  exact ⟨hsub s g1, m2, e2⟩
theorem least_some {r : List Hold} {b : Body} {s : List Int} {top : Int} {w k : Nat} (hs : s ∈ goodS r b) : leastR r b s top w = some k ↔ k < 21 ∧ okAt r b s top w k ∧ ∀ j : Nat, j < k → ¬ okAt r b s top w j := by
  unfold leastR
  rw [find_least]
  constructor
  · rintro ⟨h1, h2, h3⟩
    refine ⟨h1, (okAt_iff hs).mp h2, fun j hj ho => ?_⟩
    have := h3 j hj
    rw [(okAt_iff hs).mpr ho] at this
    cases this
  · rintro ⟨h1, h2, h3⟩
    refine ⟨h1, (okAt_iff hs).mpr h2, fun j hj => ?_⟩
    cases e : (keptL r (setB b w (j : Int)) s && can r (setB b w (j : Int)) s top) with
    | false => rfl
    | true => exact absurd ((okAt_iff hs).mp e) (h3 j hj)
theorem least_none {r : List Hold} {b : Body} {s : List Int} {top : Int} {w : Nat} (hs : s ∈ goodS r b) (h : leastR r b s top w = none) (k : Nat) (hk : k < 21) : ¬ okAt r b s top w k := fun ho => by
  unfold leastR at h
  rw [List.find?_eq_none] at h
  exact h k (List.mem_range.mpr hk) ((okAt_iff hs).mpr ho)
theorem least_le {r : List Hold} {b : Body} {s : List Int} {top : Int} {w k : Nat} (hs : s ∈ goodS r b) (hk : k < 21) (ho : okAt r b s top w k) : ∃ m, leastR r b s top w = some m ∧ m ≤ k := by
  cases e : leastR r b s top w with
  | none => exact absurd ho (least_none hs e k hk)
  | some m =>
    refine ⟨m, rfl, ?_⟩
    obtain ⟨_, _, h3⟩ := (least_some hs).mp e
    by_cases q : m ≤ k
    · exact q
    · exact absurd ho (h3 k (by omega))
/-! a rock with room, a body that reaches all -/
def roomy (r : List Hold) : List Hold := r.map fun h => (h.1, h.2.1, 2)
abbrev b20 : Body := (20, 20, 20, 20)
theorem hd_roomy {r : List Hold} {i : Int} (hi : InR r i) : hd (roomy r) i = ((hd r i).1, (hd r i).2.1, 2) := by
  obtain ⟨h0, h1⟩ := hi
  unfold hd roomy
  rw [List.getD_eq_getElem?_getD, List.getD_eq_getElem?_getD, List.getElem?_map, List.getElem?_eq_getElem (by omega)]
  rfl
theorem roomy_ok {r : List Hold} (h : RockOk r) : RockOk (roomy r) := ⟨by unfold roomy; rw [List.length_map]; exact h.pos, by unfold roomy; rw [List.length_map]; exact h.few, fun a ha => by
  obtain ⟨x, hx, rfl⟩ := List.mem_map.mp ha
  obtain ⟨h1, h2, _⟩ := h.hold x hx
  exact ⟨h1, h2, show (1 : Int) ≤ 2 by decide, show (2 : Int) ≤ 2 by decide⟩, by
  unfold roomy
  rw [List.map_map]
  exact h.nd⟩
theorem near20 {r : List Hold} (h : RockOk r) {i j : Int} (hi : InR r i) (hj : InR r j) : apI r i j ≤ 20 := by
  obtain ⟨a1, a2, _⟩ := h.hold _ (hd_mem hi)
  obtain ⟨c1, c2, _⟩ := h.hold _ (hd_mem hj)
  unfold apI maxI absI
  split <;> split <;> split <;> omega
theorem kept20 {r : List Hold} (h : RockOk r) {i j k l : Int} (hi : InR r i) (hj : InR r j) (hk : InR r k) (hl : InR r l) (room : ∀ x ∈ [i, j, k, l], [i, j, k, l].countP (fun z => decide (z = x)) ≤ 2) (f1 : (hd r k).2.1 ≤ (hd r i).2.1) (f2 : (hd r l).2.1 ≤ (hd r i).2.1) (f3 : (hd r k).2.1 ≤ (hd r j).2.1) (f4 : (hd r l).2.1 ≤ (hd r j).2.1) : kept (roomy r) b20 i j k l = true := by
  have ir : ∀ {x : Int}, InR r x → InR (roomy r) x := fun {x} hx => ⟨hx.1, by unfold roomy; rw [List.length_map]; exact hx.2⟩
  have rk := roomy_ok h
  have n1 := near20 rk (ir hi) (ir hj)
  have n2 := near20 rk (ir hk) (ir hl)
  have n3 := near20 rk (ir hi) (ir hk)
  have n4 := near20 rk (ir hi) (ir hl)
  have n5 := near20 rk (ir hj) (ir hk)
  have n6 := near20 rk (ir hj) (ir hl)
  have ei := hd_roomy hi
  have ej := hd_roomy hj
  have ek := hd_roomy hk
  have el := hd_roomy hl
  obtain ⟨a1, a2, _⟩ := h.hold _ (hd_mem hi)
  obtain ⟨c1, c2, _⟩ := h.hold _ (hd_mem hj)
  obtain ⟨d1, d2, _⟩ := h.hold _ (hd_mem hk)
  obtain ⟨g1, g2, _⟩ := h.hold _ (hd_mem hl)
  have hroom : roomOk (roomy r) [i, j, k, l] = true := by
    unfold roomOk
    rw [List.all_eq_true]
    intro x hx
    have hx2 : InR r x := by
      simp only [List.mem_cons, List.not_mem_nil, or_false] at hx
      rcases hx with rfl | rfl | rfl | rfl <;> assumption
    rw [hd_roomy hx2, decide_eq_true_eq]
    have := room x hx
    show _ ≤ (2 : Int)
    omega
  unfold kept farB sorted2
  rw [hroom]
  simp only [Bool.and_eq_true, Bool.not_eq_true', Bool.or_eq_false_iff, decide_eq_false_iff_not, decide_eq_true_eq, ei, ej, ek, el, Bool.not_true, Bool.false_or]
  refine ⟨⟨by omega, by omega⟩, ⟨by omega, by omega⟩, ⟨by omega, by omega⟩, ⟨by omega, by omega⟩, ⟨by omega, by omega⟩, by omega, by omega⟩
theorem climb20 {r : List Hold} {b : Body} {s : List Int} {top : Int} (hr : RockOk r) (hs : s ∈ goodS r b) (ht : InR r top) (hn : top ∉ s) (h1 : ∀ i j k l, s = [i, j, k, l] → (hd r k).2.1 ≤ (hd r top).2.1 ∧ (hd r l).2.1 ≤ (hd r top).2.1) : s ∈ goodS (roomy r) b20 ∧ ∃ m, topd (goodS (roomy r) b20) s top = some m := by
  obtain ⟨g1, g2, g3⟩ := mem_good.mp hs
  match s, g1 with
  | [i, j, k, l], _ =>
    obtain ⟨q1, q2⟩ := h1 i j k l rfl
    have hi : InR r i := g2 i (by simp)
    have hj : InR r j := g2 j (by simp)
    have hk : InR r k := g2 k (by simp)
    have hl : InR r l := g2 l (by simp)
    have g3 : kept r b i j k l = true := g3
    have g4 := g3
    unfold kept farB at g4
    simp only [Bool.and_eq_true, Bool.not_eq_true', Bool.or_eq_false_iff, decide_eq_false_iff_not, decide_eq_true_eq, Bool.not_eq_false'] at g4
    obtain ⟨⟨r1, _⟩, ⟨_, f1⟩, ⟨_, f2⟩, ⟨_, f3⟩, ⟨_, f4⟩, _⟩ := g4
    have room : ∀ x ∈ [i, j, k, l], [i, j, k, l].countP (fun z => decide (z = x)) ≤ 2 := fun x hx => by
      unfold roomOk at r1
      have := of_decide_eq_true (List.all_eq_true.mp r1 x hx)
      have := (hr.hold _ (hd_mem (g2 x hx))).2.2.2
      omega
    simp only [List.mem_cons, List.not_mem_nil, or_false, not_or] at hn
    have room2 : ∀ x ∈ [top, j, k, l], [top, j, k, l].countP (fun z => decide (z = x)) ≤ 2 := fun x hx => by
      simp only [List.mem_cons, List.not_mem_nil, or_false] at hx
      by_cases e : x = top
      · subst e
        have e1 : ¬ j = x := fun z => hn.2.1 z.symm
        have e2 : ¬ k = x := fun z => hn.2.2.1 z.symm
        have e3 : ¬ l = x := fun z => hn.2.2.2 z.symm
        simp [List.countP_cons, e1, e2, e3]
      · have hx2 : x ∈ [i, j, k, l] := by
          simp only [List.mem_cons, List.not_mem_nil, or_false]
          rcases hx with h | h
          · exact absurd h e
          · exact .inr h
        have := room x hx2
        have e0 : ¬ top = x := fun z => e z.symm
        simp only [List.countP_cons, List.countP_nil, decide_eq_true_eq, e0, if_false, Nat.add_zero] at this ⊢
        omega
    have len : (roomy r).length = r.length := by unfold roomy; rw [List.length_map]
    have s0 : [i, j, k, l] ∈ goodS (roomy r) b20 := mem_good.mpr ⟨rfl, fun x hx => by rw [len]; exact g2 x hx, kept20 hr hi hj hk hl room (by omega) (by omega) (by omega) (by omega)⟩
    have s1 : [top, j, k, l] ∈ goodS (roomy r) b20 := mem_good.mpr ⟨rfl, fun x hx => by
      rw [len]
      simp only [List.mem_cons, List.not_mem_nil, or_false] at hx
      rcases hx with rfl | rfl | rfl | rfl
      · exact ht
      · exact hj
      · exact hk
      · exact hl, kept20 hr ht hj hk hl room2 (by omega) (by omega) (by omega) (by omega)⟩
    have ha : adj1 [i, j, k, l] [top, j, k, l] = true := adj1_4.mpr (.inl ⟨fun z => hn.1 z.symm, rfl, rfl, rfl⟩)
    have htop : tops [top, j, k, l] top = true := by
      unfold tops
      rw [List.take_succ_cons, List.any_cons, decide_eq_true rfl, Bool.true_or]
    obtain ⟨m, _, hm⟩ := isT_ex (Wk.one s0 s1 ha) htop
    exact ⟨s0, m, topd_some.mpr hm⟩
def sp__law_part : DSp := fun _ ds Q _ => ∃ (r : List Hold) (b : Body) (s : List Int) (top : Int) (w : Nat), ds = [.p (eR r), .p (eB b), .p (eS s), dI top, dI w] ∧ RockOk r ∧ BodyOk b ∧ (b.1 ≤ 19 ∧ b.2.1 ≤ 19 ∧ b.2.2.1 ≤ 19 ∧ b.2.2.2 ≤ 19) ∧ s ∈ goodS r b ∧ InR r top ∧ w < 4 ∧ Q (dB true)
end WL
namespace WL
open PySem PySem.Spec PyProof.Rows L2
theorem r_setB {Γ : List SV} {Q : AV → Prop} {Ed : Value → Prop} {i j : Nat} {b : Body} {w : Nat} {k : Int} {kE : DE} (e1 : Γ[i]? = some (.d (.p (eB b)))) (e2 : Γ[j]? = some (.d (dI w))) (hw : w < 4) (hk : ∀ R : AV → Prop, R (.c (dI k)) → kE Γ R Ed) (h : Q (.c (.p (eB (setB b w k))))) :
    dOp gAddP (dOp gAddP (dSl (dVar i) dNo (dSome (dVar j))) (dTup (dCons kE dNil))) (dSl (dVar i) (dSome (dOp gAddP (dVar j) (dC (dI 1)))) dNo) Γ Q Ed := by
  have go : ∀ xs ys : List PyData, xs.length + 1 ≤ 1000 → (xs ++ [PyData.int k]).length + ys.length ≤ 1000 → cutD [.int b.1, .int b.2.1, .int b.2.2.1, .int b.2.2.2] none (some (w : Int)) = xs → cutD [.int b.1, .int b.2.1, .int b.2.2.1, .int b.2.2.2] (some ((w : Int) + 1)) none = ys → PyData.tuple (xs ++ [.int k] ++ ys) = eB (setB b w k) → dOp gAddP (dOp gAddP (dSl (dVar i) dNo (dSome (dVar j))) (dTup (dCons kE dNil))) (dSl (dVar i) (dSome (dOp gAddP (dVar j) (dC (dI 1)))) dNo) Γ Q Ed := by
    intro xs ys l1 l2 c1 c2 c3
    refine r_op (r_op (r_sl (r_var e1 (r_no (r_some (r_var e2 (r_somv (r_slwT (ps := [.int b.1, .int b.2.1, .int b.2.2.1, .int b.2.2.2]) rfl ?_)))))))) 
    rw [c1]
    refine r_tup (r_cons (hk _ (r_nil (r_few (r_datsc (r_datsn (r_addT rfl rfl l1 ?_))) (by show 1 ≤ 1000; decide)))))
    refine r_sl (r_var e1 (r_some (r_op (r_var e2 (r_con (r_addI (r_somv (r_no (r_slwT (ps := [.int b.1, .int b.2.1, .int b.2.2.1, .int b.2.2.2]) rfl ?_)))))))))
    rw [c2]
    refine r_addT rfl rfl l2 ?_
    rw [c3]
    exact h
  obtain rfl | rfl | rfl | rfl : w = 0 ∨ w = 1 ∨ w = 2 ∨ w = 3 := by omega
  · exact go [] [.int b.2.1, .int b.2.2.1, .int b.2.2.2] (by show 1 ≤ 1000; decide) (by show 4 ≤ 1000; decide) rfl rfl rfl
  · exact go [.int b.1] [.int b.2.2.1, .int b.2.2.2] (by show 2 ≤ 1000; decide) (by show 4 ≤ 1000; decide) rfl rfl rfl
  · exact go [.int b.1, .int b.2.1] [.int b.2.2.2] (by show 3 ≤ 1000; decide) (by show 4 ≤ 1000; decide) rfl rfl rfl
  · exact go [.int b.1, .int b.2.1, .int b.2.2.1] [] (by show 4 ≤ 1000; decide) (by show 4 ≤ 1000; decide) rfl rfl rfl
theorem r_ixB {Q : AV → Prop} {b : Body} {w : Nat} (hw : w < 4) (h : Q (.c (dI (partB b w)))) : gIx (.c (.p (eB b))) (.c (dI w)) Q := by
  match w, hw with
  | 0, _ => exact r_ixT rfl at0 h
  | 1, _ => exact r_ixT rfl at1 h
  | 2, _ => exact r_ixT rfl at2 h
  | 3, _ => exact r_ixT rfl at3 h
/-- a body with all parts greater by one but w -/
def oneI (a w : Int) : Int := if a = w then 0 else 1
def wideB (b : Body) (w : Nat) : Body := (b.1 + oneI 0 w, b.2.1 + oneI 1 w, b.2.2.1 + oneI 2 w, b.2.2.2 + oneI 3 w)
theorem oneI_rng (a w : Int) : 0 ≤ oneI a w ∧ oneI a w ≤ 1 := by unfold oneI; split <;> decide
theorem climb_iff {rows : List (List Int)} {s : List Int} {top : Int} {o : Option (List (List Int))} (h : ClimbO rows s top o) : o.isNone = (topd rows s top).isNone := by
  cases e : topd rows s top with
  | none =>
    rw [climbO_none h e]
    rfl
  | some n =>
    obtain ⟨l, g, rfl, _⟩ := climbO_some h e
    rfl
theorem part_rng {b : Body} {w : Nat} (h : BodyOk b) : 0 ≤ partB b w ∧ partB b w ≤ 20 := by
  unfold BodyOk at h
  unfold partB
  split <;> omega
theorem q_setB {Γ : List SV} {Q : AV → Prop} {Ed : Value → Prop} {i j : Nat} {b : Body} {w : Nat} {k : Int} {kE : DE} (h : Q (.c (.p (eB (setB b w k))))) (e1 : Γ[i]? = some (.d (.p (eB b))) := by with_unfolding_all rfl) (e2 : Γ[j]? = some (.d (dI w)) := by with_unfolding_all rfl) (hw : w < 4 := by assumption)
    (hk : ∀ R : AV → Prop, R (.c (dI k)) → kE Γ R Ed := by first | exact fun R hR => r_con hR | exact fun R hR => r_var (by with_unfolding_all rfl) hR | exact fun R hR => r_op (r_var (by with_unfolding_all rfl) (r_con (r_gI hR)))) :
    dOp gAddP (dOp gAddP (dSl (dVar i) dNo (dSome (dVar j))) (dTup (dCons kE dNil))) (dSl (dVar i) (dSome (dOp gAddP (dVar j) (dC (dI 1)))) dNo) Γ Q Ed := r_setB e1 e2 hw hk h
theorem q_ixB {Q : AV → Prop} {b : Body} {w : Nat} (h : Q (.c (dI (partB b w)))) (hw : w < 4 := by assumption) : gIx (.c (.p (eB b))) (.c (dI w)) Q := r_ixB hw h
def enumv (R : List PyData → Prop) (xs : List AV) : Prop := match xs with
  | [x] => x.dat fun d => (match d with
    | .tuple xs => R (enumD xs)
    | _ => False)
  | _ => False
theorem r_enum {t : DA} {Γ : List SV} {R : List PyData → Prop} {Ed : Value → Prop} (h : t Γ (enumv R) Ed) : dEnum t Γ R Ed := h
theorem q_enumv {R : List PyData → Prop} {p : PyData} {ps : List PyData} (h : R (enumD ps)) (e : p = .tuple ps := by with_unfolding_all rfl) : enumv R [.c (.p p)] := by
  subst e
  exact h
theorem r_inI {Q : AV → Prop} {ng : Bool} {s : List Int} {x : Int} (h : Q (.c (dB (if ng then !decide (x ∈ s) else decide (x ∈ s))))) : gInP ng (.c (dI x)) (.c (.p (eS s))) Q := by
  refine r_inT (ps := s.map .int) rfl rfl rfl (plain_ints _) (Nat.le_trans (depth_int _) (by decide)) ?_
  rw [any_int]
  exact h
end WL

set_option maxRecDepth 100000
set_option maxHeartbeats 1000000
namespace WL
open PySem PySem.Spec PyProof.Rows L2
/-! ### mirrored and higher rocks -/
/-- stances that stand for one another -/
structure Iso (rows rows' : List (List Int)) (f g : List Int → List Int) : Prop where
  f1 : ∀ s ∈ rows, f s ∈ rows'
  g1 : ∀ s ∈ rows', g s ∈ rows
  gf : ∀ s ∈ rows, g (f s) = s
  fg : ∀ s ∈ rows', f (g s) = s
  ad : ∀ s t, s ∈ rows → t ∈ rows → adj1 (f s) (f t) = adj1 s t
  tp : ∀ s ∈ rows, ∀ top, tops (f s) top = tops s top
section
variable {rows rows' : List (List Int)} {f g : List Int → List Int}
theorem Iso.symm (h : Iso rows rows' f g) : Iso rows' rows g f := ⟨h.g1, h.f1, h.fg, h.gf, fun s t hs ht => by
  have := h.ad (g s) (g t) (h.g1 s hs) (h.g1 t ht)
  rw [h.fg s hs, h.fg t ht] at this
  exact this.symm, fun s hs top => by
  have := h.tp (g s) (h.g1 s hs) top
  rw [h.fg s hs] at this
  exact this.symm⟩
theorem Iso.wk (h : Iso rows rows' f g) {n : Nat} {s t : List Int} (w : Wk rows adj1 n s t) : Wk rows' adj1 n (f s) (f t) := w.mono f h.f1 fun a b ha hb e => by rw [h.ad a b ha hb]; exact e
theorem Iso.isD (h : Iso rows rows' f g) {n : Nat} {s t : List Int} (w : IsD rows adj1 n s t) : IsD rows' adj1 n (f s) (f t) := ⟨h.wk w.1, fun m hm k => w.2 m hm (by
  have := h.symm.wk k
  rw [h.gf s w.1.fst, h.gf t w.1.lst] at this
  exact this)⟩
theorem Iso.dist (h : Iso rows rows' f g) {s t : List Int} (hs : s ∈ rows) (ht : t ∈ rows) : dist rows' adj1 (f s) (f t) = dist rows adj1 s t := by
  cases e : WL.dist rows adj1 s t with
  | some n => exact dist_some.mpr (h.isD (dist_some.mp e))
  | none =>
    refine dist_none.mpr fun n w => dist_none.mp e n ?_
    have := h.symm.wk w
    rw [h.gf s hs, h.gf t ht] at this
    exact this
theorem Iso.topd (h : Iso rows rows' f g) {s : List Int} {top : Int} (hs : s ∈ rows) : topd rows' (f s) top = topd rows s top := by
  cases e : WL.topd rows s top with
  | some n =>
    obtain ⟨⟨x, x1, x2⟩, x3⟩ := topd_some.mp e
    refine topd_some.mpr ⟨⟨f x, h.isD x1, by rw [h.tp x x1.1.lst]; exact x2⟩, fun y m w ty => x3 (g y) m ?_ ?_⟩
    · have := h.symm.wk w
      rw [h.gf s hs] at this
      exact this
    · rw [h.symm.tp y w.lst]
      exact ty
  | none =>
    refine topd_none.mpr fun y ⟨n, w⟩ => ?_
    have := h.symm.wk w
    rw [h.gf s hs] at this
    have := topd_none.mp e (g y) ⟨n, this⟩
    rw [h.symm.tp y w.lst] at this
    exact this
theorem Iso.pairs (h : Iso rows rows' f g) : ∀ {l : List (List Int)}, (∀ x ∈ l, x ∈ rows) → pairsOk adj1 (l.map f) = pairsOk adj1 l
  | [], _ => rfl
  | [_], _ => rfl
  | x :: y :: l, hl => by
    have ih := Iso.pairs h (l := y :: l) fun z hz => hl z (List.mem_cons_of_mem _ hz)
    show (adj1 (f x) (f y) && pairsOk adj1 ((y :: l).map f)) = (adj1 x y && pairsOk adj1 (y :: l))
    rw [ih, h.ad x y (hl x (by simp)) (hl y (by simp))]
theorem Iso.path (h : Iso rows rows' f g) {s t : List Int} {l : List (List Int)} (p : SPath rows s t l) : SPath rows' (f s) (f t) (l.map f) := ⟨by rw [List.head?_map, p.hd]; rfl, by rw [List.getLast?_map, p.lt]; rfl, fun x hx => by
  obtain ⟨y, hy, rfl⟩ := List.mem_map.mp hx
  exact h.f1 y (p.inr y hy), by rw [h.pairs p.inr]; exact p.ok, by rw [List.length_map]; exact h.isD p.short⟩
end
/-! mirrored -/
theorem mirR_len (r : List Hold) : (mirR r).length = r.length := by unfold mirR; rw [List.length_map]
theorem hd_mir {r : List Hold} {i : Int} (hi : InR r i) : hd (mirR r) i = (20 - (hd r i).1, (hd r i).2.1, (hd r i).2.2) := by
  obtain ⟨h0, h1⟩ := hi
  unfold hd mirR
  rw [List.getD_eq_getElem?_getD, List.getD_eq_getElem?_getD, List.getElem?_map, List.getElem?_eq_getElem (by omega)]
  rfl
theorem mirR_mirR (r : List Hold) : mirR (mirR r) = r := by
  unfold mirR
  rw [List.map_map]
  have e : ((fun h : Hold => ((20 - h.1, h.2.1, h.2.2) : Hold)) ∘ fun h : Hold => (20 - h.1, h.2.1, h.2.2)) = id := by
    funext h
    show ((20 - (20 - h.1), h.2.1, h.2.2) : Hold) = h
    exact Prod.ext (by show 20 - (20 - h.1) = h.1; omega) rfl
  rw [e, List.map_id]
theorem mirR_ok {r : List Hold} (h : RockOk r) : RockOk (mirR r) := ⟨by rw [mirR_len]; exact h.pos, by rw [mirR_len]; exact h.few, fun a ha => by
  obtain ⟨x, hx, rfl⟩ := List.mem_map.mp ha
  obtain ⟨h1, h2, h3⟩ := h.hold x hx
  exact ⟨⟨by show 0 ≤ 20 - x.1; omega, by show 20 - x.1 ≤ 20; omega⟩, h2, h3⟩, by
  unfold mirR
  rw [List.map_map]
  have nd := h.nd
  have e : (r.map ((fun h : Hold => [h.1, h.2.1]) ∘ fun h : Hold => (20 - h.1, h.2.1, h.2.2))) = (r.map fun h : Hold => [h.1, h.2.1]).map fun l => [20 - l.headD 0, (l.drop 1).headD 0] := by
    rw [List.map_map]
    rfl
  rw [e]
  refine nodup_map (fun a ha b hb e => ?_) nd
  obtain ⟨x, _, rfl⟩ := List.mem_map.mp ha
  obtain ⟨y, _, rfl⟩ := List.mem_map.mp hb
  simp only [List.headD_cons, List.drop_succ_cons, List.drop_zero, List.cons.injEq, and_true] at e ⊢
  omega⟩
theorem mirS_mirS : ∀ s : List Int, mirS (mirS s) = s
  | [] => rfl
  | [_] => rfl
  | [_, _] => rfl
  | [_, _, _] => rfl
  | [_, _, _, _] => rfl
  | _ :: _ :: _ :: _ :: _ :: _ => rfl
theorem absI_neg (x : Int) : absI (-x) = absI x := by
  unfold absI
  split <;> split <;> omega
theorem count_mir (i j k l x : Int) : [j, i, l, k].countP (fun z => decide (z = x)) = [i, j, k, l].countP (fun z => decide (z = x)) := by
  simp only [List.countP_cons, List.countP_nil]
  omega
theorem kept_mir {r : List Hold} {b : Body} {i j k l : Int} (hi : InR r i) (hj : InR r j) (hk : InR r k) (hl : InR r l) : kept (mirR r) b j i l k = kept r b i j k l := by
  have ei := hd_mir hi
  have ej := hd_mir hj
  have ek := hd_mir hk
  have el := hd_mir hl
  have hroom : roomOk (mirR r) [j, i, l, k] = roomOk r [i, j, k, l] := by
    unfold roomOk
    simp only [List.all_cons, List.all_nil, count_mir, ei, ej, ek, el, Bool.and_true]
    rw [Bool.eq_iff_iff]
    simp only [Bool.and_eq_true, decide_eq_true_eq]
    constructor
    · rintro ⟨h1, h2, h3, h4⟩
      exact ⟨h2, h1, h4, h3⟩
    · rintro ⟨h1, h2, h3, h4⟩
      exact ⟨h2, h1, h4, h3⟩
  have ap : ∀ {x y : Int}, InR r x → InR r y → apI (mirR r) x y = apI r x y := fun {x y} hx hy => by
    unfold apI
    rw [hd_mir hx, hd_mir hy]
    show maxI (absI (20 - (hd r x).1 - (20 - (hd r y).1))) _ = _
    rw [show 20 - (hd r x).1 - (20 - (hd r y).1) = -((hd r x).1 - (hd r y).1) by omega, absI_neg]
  have aps : ∀ {x y : Int}, apI r x y = apI r y x := fun {x y} => by
    unfold apI
    rw [← absI_neg ((hd r x).1 - (hd r y).1), ← absI_neg ((hd r x).2.1 - (hd r y).2.1), show -((hd r x).1 - (hd r y).1) = (hd r y).1 - (hd r x).1 by omega, show -((hd r x).2.1 - (hd r y).2.1) = (hd r y).2.1 - (hd r x).2.1 by omega]
  unfold kept farB sorted2
  rw [hroom, ap hj hi, ap hl hk, ap hj hl, ap hj hk, ap hi hl, ap hi hk, aps (x := j) (y := i), aps (x := l) (y := k), ei, ej, ek, el]
  rw [Bool.eq_iff_iff]
  simp only [Bool.and_eq_true, Bool.not_eq_true', Bool.or_eq_false_iff, decide_eq_false_iff_not, decide_eq_true_eq, Bool.not_eq_false']
  constructor
  · rintro ⟨⟨g0, g1, g2⟩, ⟨g3, g3'⟩, ⟨g4, g4'⟩, ⟨g5, g5'⟩, ⟨g6, g6'⟩, g7, g8⟩
    exact ⟨⟨g0, g1, g2⟩, ⟨g6, g6'⟩, ⟨g5, g5'⟩, ⟨g4, g4'⟩, ⟨g3, g3'⟩, by omega, by omega⟩
  · rintro ⟨⟨g0, g1, g2⟩, ⟨g3, g3'⟩, ⟨g4, g4'⟩, ⟨g5, g5'⟩, ⟨g6, g6'⟩, g7, g8⟩
    exact ⟨⟨g0, g1, g2⟩, ⟨g6, g6'⟩, ⟨g5, g5'⟩, ⟨g4, g4'⟩, ⟨g3, g3'⟩, by omega, by omega⟩
theorem good_mir {r : List Hold} {b : Body} {s : List Int} (hs : s ∈ goodS r b) : mirS s ∈ goodS (mirR r) b := by
  obtain ⟨h1, h2, h3⟩ := mem_good.mp hs
  match s, h1 with
  | [i, j, k, l], _ =>
    refine mem_good.mpr ⟨rfl, fun x hx => ?_, ?_⟩
    · rw [mirR_len]
      refine h2 x ?_
      simp only [mirS, List.mem_cons, List.not_mem_nil, or_false] at hx ⊢
      omega
    · exact (kept_mir (h2 i (by simp)) (h2 j (by simp)) (h2 k (by simp)) (h2 l (by simp))).trans h3
theorem good_mir' {r : List Hold} {b : Body} {s : List Int} (hs : s ∈ goodS (mirR r) b) : mirS s ∈ goodS r b := by
  have := good_mir hs
  rw [mirR_mirR] at this
  exact this
theorem adj_mir {s t : List Int} (hs : s.length = 4) (ht : t.length = 4) : adj1 (mirS s) (mirS t) = adj1 s t := by
  match s, hs, t, ht with
  | [i, j, k, l], _, [i', j', k', l'], _ =>
    rw [Bool.eq_iff_iff]
    show adj1 [j, i, l, k] [j', i', l', k'] = true ↔ _
    rw [adj1_4, adj1_4]
    omega
theorem tops_mir {s : List Int} {top : Int} (hs : s.length = 4) : tops (mirS s) top = tops s top := by
  match s, hs with
  | [i, j, k, l], _ =>
    unfold tops
    show ([j, i].any _) = ([i, j].any _)
    simp only [List.any_cons, List.any_nil, Bool.or_false]
    exact Bool.or_comm _ _
theorem iso_mir {r : List Hold} {b : Body} : Iso (goodS r b) (goodS (mirR r) b) mirS mirS := ⟨fun _ => good_mir, fun _ => good_mir', fun s _ => mirS_mirS s, fun s _ => mirS_mirS s, fun s t hs ht => adj_mir (mem_good.mp hs).1 (mem_good.mp ht).1, fun s hs top => tops_mir (mem_good.mp hs).1⟩
theorem mem_mirS {s : List Int} {x : Int} : x ∈ mirS s ↔ x ∈ s := by
  unfold mirS
  split
  · simp only [List.mem_cons, List.not_mem_nil, or_false]
    omega
  · exact Iff.rfl
theorem iso_sub {r : List Hold} {b : Body} {hs : List Int} : Iso (subS r b hs) (subS (mirR r) b hs) mirS mirS := by
  have h := iso_mir (r := r) (b := b)
  have q : ∀ {r : List Hold} {s : List Int}, s ∈ subS r b hs → s ∈ goodS r b := fun hs => (mem_subS.mp hs).1
  exact ⟨fun s hs => mem_subS.mpr ⟨h.f1 s (q hs), fun x hx => (mem_subS.mp hs).2 x (mem_mirS.mp hx)⟩, fun s hs => mem_subS.mpr ⟨h.g1 s (q hs), fun x hx => (mem_subS.mp hs).2 x (mem_mirS.mp hx)⟩, fun s _ => mirS_mirS s, fun s _ => mirS_mirS s, fun s t hs ht => h.ad s t (q hs) (q ht), fun s hs => h.tp s (q hs)⟩
theorem canOn_mir {r : List Hold} {b : Body} {s : List Int} {top : Int} {hs : List Int} : canOn (mirR r) b (mirS s) top hs = canOn r b s top hs := by
  by_cases h : s ∈ subS r b hs
  · unfold canOn
    rw [iso_sub.topd h]
  · rw [canOn_false h, canOn_false fun h2 => h ?_]
    have := iso_sub.g1 (mirS s) h2
    rw [mirS_mirS] at this
    exact this
theorem topd_mir {r : List Hold} {b : Body} {s : List Int} {top : Int} (hs : s ∈ goodS r b) : topd (goodS (mirR r) b) (mirS s) top = topd (goodS r b) s top := iso_mir.topd hs
theorem need_mir {r : List Hold} {b : Body} {s : List Int} {top : Int} (hs : s ∈ goodS r b) : needO (mirR r) b (mirS s) top = needO r b s top := by
  unfold needO can
  rw [topd_mir hs, mirR_len]
  simp only [canOn_mir]
theorem few_mir {r : List Hold} {b : Body} {s : List Int} {top : Int} : fewO (mirR r) b (mirS s) top = fewO r b s top := by
  unfold fewO
  rw [mirR_len]
  simp only [canOn_mir]
theorem least_mir {r : List Hold} {b : Body} {s : List Int} {top : Int} {w : Nat} (h4 : s.length = 4) (hs : ∀ i ∈ s, InR r i) : leastR (mirR r) b (mirS s) top w = leastR r b s top w := by
  unfold leastR
  congr 1
  funext k
  have hk : keptL (mirR r) (setB b w k) (mirS s) = keptL r (setB b w k) s := by
    match s, h4 with
    | [i, j, k', l], _ => exact kept_mir (hs i (by simp)) (hs j (by simp)) (hs k' (by simp)) (hs l (by simp))
  rw [hk]
  cases e : keptL r (setB b w k) s with
  | false => rfl
  | true =>
    have hg : s ∈ goodS r (setB b w k) := mem_good.mpr ⟨h4, hs, e⟩
    unfold can
    rw [topd_mir hg]
def mirC (r : List Hold) (b : Body) (c : List (List Int)) : List (List Int) := (goodS (mirR r) b).filter fun t => decide (mirS t ∈ c)
theorem comp_mir {r : List Hold} {b : Body} {s : List Int} (hs : s ∈ goodS r b) : comp (mirR r) b (mirS s) = mirC r b (comp r b s) := by
  unfold mirC comp
  refine List.filter_congr fun t ht => ?_
  have hts := good_mir' ht
  have e : gd (mirR r) b (mirS s) t = gd r b s (mirS t) := by
    have := iso_mir.dist hs hts
    rw [mirS_mirS] at this
    exact this
  rw [e, Bool.eq_iff_iff, decide_eq_true_eq, List.mem_filter]
  exact ⟨fun h => ⟨hts, h⟩, fun h => h.2⟩
theorem parts_mir (r : List Hold) (b : Body) : parts (mirR r) b = parts r b := by
  unfold parts
  have h : (ddp ((goodS (mirR r) b).map (comp (mirR r) b))).length = ((ddp ((goodS r b).map (comp r b))).map (mirC r b)).length := by
    refine nodup_len (nodup_ddp _) (nodup_map (fun c hc d hd e => ?_) (nodup_ddp _)) fun c => ?_
    · obtain ⟨s, hs, rfl⟩ := List.mem_map.mp (mem_ddp.mp hc)
      obtain ⟨t, ht, rfl⟩ := List.mem_map.mp (mem_ddp.mp hd)
      rw [← comp_mir hs, ← comp_mir ht] at e
      refine (comp_eq ht).mpr ?_
      obtain ⟨n, w⟩ := (comp_eq (good_mir ht)).mp e
      have := iso_mir.symm.wk w
      rw [mirS_mirS, mirS_mirS] at this
      exact ⟨n, this⟩
    · rw [mem_ddp, List.mem_map, List.mem_map]
      constructor
      · rintro ⟨t, ht, rfl⟩
        refine ⟨comp r b (mirS t), mem_ddp.mpr (List.mem_map.mpr ⟨mirS t, good_mir' ht, rfl⟩), ?_⟩
        rw [← comp_mir (good_mir' ht), mirS_mirS]
      · rintro ⟨c', hc, rfl⟩
        obtain ⟨s, hs, rfl⟩ := List.mem_map.mp (mem_ddp.mp hc)
        exact ⟨mirS s, good_mir hs, comp_mir hs⟩
  rw [h, List.length_map]
theorem mirS_inj {s t : List Int} (h : mirS s = mirS t) : s = t := by rw [← mirS_mirS s, h, mirS_mirS]
theorem srt_mir {r : List Hold} {b : Body} : srtD ((goodS r b).map fun s => eS (mirS s)) = (goodS (mirR r) b).map eS := by
  rw [show ((goodS r b).map fun s => eS (mirS s)) = ((goodS r b).map mirS).map eS by rw [List.map_map]; rfl]
  refine srt_is (good_asc _ _) (nodup_map (fun _ _ _ _ => mirS_inj) (good_nodup r b)) fun x => ?_
  rw [List.mem_map]
  constructor
  · rintro ⟨s, hs, rfl⟩
    exact good_mir hs
  · exact fun h => ⟨mirS x, good_mir' h, mirS_mirS x⟩
theorem srt_compM {r : List Hold} {b : Body} {s : List Int} (hs : s ∈ goodS r b) : srtD ((comp r b s).map fun s => eS (mirS s)) = (comp (mirR r) b (mirS s)).map eS := by
  rw [show ((comp r b s).map fun s => eS (mirS s)) = ((comp r b s).map mirS).map eS by rw [List.map_map]; rfl]
  refine srt_is (comp_asc _ _ _) (nodup_map (fun _ _ _ _ => mirS_inj) (asc_nodup (comp_asc r b s))) fun x => ?_
  rw [List.mem_map, mem_comp]
  constructor
  · rintro ⟨t, ht, rfl⟩
    obtain ⟨n, w⟩ := mem_comp.mp ht
    exact ⟨n, iso_mir.wk w⟩
  · rintro ⟨n, w⟩
    refine ⟨mirS x, mem_comp.mpr ⟨n, ?_⟩, mirS_mirS x⟩
    have := iso_mir.symm.wk w
    rw [mirS_mirS] at this
    exact this
/-! higher -/
theorem upR_len (r : List Hold) (i : Int) : (upR r i).length = r.length := by unfold upR; rw [List.length_map]
theorem hd_up {r : List Hold} {i y : Int} (hi : InR r i) : hd (upR r y) i = ((hd r i).1, (hd r i).2.1 + y, (hd r i).2.2) := by
  obtain ⟨h0, h1⟩ := hi
  unfold hd upR
  rw [List.getD_eq_getElem?_getD, List.getD_eq_getElem?_getD, List.getElem?_map, List.getElem?_eq_getElem (by omega)]
  rfl
theorem kept_up {r : List Hold} {b : Body} {y : Int} {s : List Int} (hs : ∀ i ∈ s, InR r i) : keptL (upR r y) b s = keptL r b s := by
  match s, hs with
  | [i, j, k, l], hs =>
    have ei := hd_up (y := y) (hs i (by simp))
    have ej := hd_up (y := y) (hs j (by simp))
    have ek := hd_up (y := y) (hs k (by simp))
    have el := hd_up (y := y) (hs l (by simp))
    have ap : ∀ {x z : Int}, InR r x → InR r z → apI (upR r y) x z = apI r x z := fun {x z} hx hz => by
      unfold apI
      rw [hd_up hx, hd_up hz]
      show maxI (absI ((hd r x).1 - (hd r z).1)) (absI ((hd r x).2.1 + y - ((hd r z).2.1 + y))) = _
      rw [show (hd r x).2.1 + y - ((hd r z).2.1 + y) = (hd r x).2.1 - (hd r z).2.1 by omega]
    have dl : ∀ a c : Int, decide (a + y < c + y) = decide (a < c) := fun a c => by
      rw [Bool.eq_iff_iff, decide_eq_true_eq, decide_eq_true_eq]
      omega
    show kept _ _ _ _ _ _ = kept _ _ _ _ _ _
    unfold kept farB sorted2 roomOk
    rw [ap (hs i (by simp)) (hs j (by simp)), ap (hs k (by simp)) (hs l (by simp)), ap (hs i (by simp)) (hs k (by simp)), ap (hs i (by simp)) (hs l (by simp)), ap (hs j (by simp)) (hs k (by simp)), ap (hs j (by simp)) (hs l (by simp))]
    simp only [List.all_cons, List.all_nil, ei, ej, ek, el, dl]
  | [], _ => rfl
  | [_], _ => rfl
  | [_, _], _ => rfl
  | [_, _, _], _ => rfl
  | _ :: _ :: _ :: _ :: _ :: _, _ => rfl
theorem good_up (r : List Hold) (b : Body) (y : Int) : goodS (upR r y) b = goodS r b := by
  unfold goodS
  rw [upR_len]
  exact List.filter_congr fun s hs => kept_up (rowsN_rng s hs)
theorem sub_up (r : List Hold) (b : Body) (y : Int) (hs : List Int) : subS (upR r y) b hs = subS r b hs := by
  unfold subS
  rw [good_up]
theorem need_up (r : List Hold) (b : Body) (y : Int) (s : List Int) (top : Int) : needO (upR r y) b s top = needO r b s top := by
  unfold needO can canOn
  rw [good_up, upR_len]
  simp only [sub_up]
theorem few_up (r : List Hold) (b : Body) (y : Int) (s : List Int) (top : Int) : fewO (upR r y) b s top = fewO r b s top := by
  unfold fewO canOn
  rw [upR_len]
  simp only [sub_up]
theorem parts_up (r : List Hold) (b : Body) (y : Int) : parts (upR r y) b = parts r b := by
  unfold parts
  have : comp (upR r y) b = comp r b := by
    funext s
    unfold comp gd
    rw [good_up]
  rw [this, good_up]
theorem upR_ok {r : List Hold} {y : Int} (h : RockOk r) (hy : ∀ a ∈ r, 0 ≤ a.2.1 + y ∧ a.2.1 + y ≤ 20) : RockOk (upR r y) := ⟨by rw [upR_len]; exact h.pos, by rw [upR_len]; exact h.few, fun a ha => by
  obtain ⟨x, hx, rfl⟩ := List.mem_map.mp ha
  obtain ⟨h1, _, h3⟩ := h.hold x hx
  exact ⟨h1, hy x hx, h3⟩, by
  unfold upR
  rw [List.map_map]
  have nd := h.nd
  have e : (r.map ((fun h : Hold => [h.1, h.2.1]) ∘ fun h : Hold => (h.1, h.2.1 + y, h.2.2))) = (r.map fun h : Hold => [h.1, h.2.1]).map fun l => [l.headD 0, (l.drop 1).headD 0 + y] := by
    rw [List.map_map]
    rfl
  rw [e]
  refine nodup_map (fun a ha b hb e => ?_) nd
  obtain ⟨x, _, rfl⟩ := List.mem_map.mp ha
  obtain ⟨z, _, rfl⟩ := List.mem_map.mp hb
  simp only [List.headD_cons, List.drop_succ_cons, List.drop_zero, List.cons.injEq, and_true] at e ⊢
  omega⟩
theorem btw_mir {r : List Hold} {b : Body} {s : List Int} (h : r.length ≤ 7) (hs : s ∈ goodS r b) : areBtw (eS s) 4 0 6 = true := by
  obtain ⟨h1, h2, _⟩ := mem_good.mp hs
  exact areBtw_ints (by omega) fun i hi => by have := h2 i hi; omega
end WL
namespace WL
open PySem PySem.Spec PyProof.Rows L2
theorem eqv_eH (a b : Hold) : PyData.eqv (eH a) (eH b) = decide (a = b) := by
  unfold eH
  rw [PyData.eqv, PyData.eqvAll, PyData.eqvAll, PyData.eqvAll, PyData.eqvAll, eqv_int, eqv_int, eqv_int, Bool.and_true]
  rw [Bool.eq_iff_iff]
  simp only [Bool.and_eq_true, decide_eq_true_eq]
  constructor
  · rintro ⟨h1, h2, h3⟩
    exact Prod.ext h1 (Prod.ext h2 h3)
  · rintro rfl
    exact ⟨rfl, rfl, rfl⟩
theorem eqv_holds : ∀ a b : List Hold, PyData.eqvAll (a.map eH) (b.map eH) = decide (a = b)
  | [], [] => by rw [List.map_nil, PyData.eqvAll]; rfl
  | [], y :: b => by rw [List.map_nil, List.map_cons, PyData.eqvAll]; rfl
  | x :: a, [] => by rw [List.map_nil, List.map_cons, PyData.eqvAll]; rfl
  | x :: a, y :: b => by
    rw [List.map_cons, List.map_cons, PyData.eqvAll, eqv_eH, eqv_holds a b]
    by_cases h1 : x = y
    · by_cases h2 : a = b
      · rw [h1, h2]; simp
      · simp [h1, h2]
    · simp [h1]
theorem eqv_eR (a b : List Hold) : PyData.eqv (eR a) (eR b) = decide (a = b) := by
  unfold eR
  rw [PyData.eqv]
  exact eqv_holds a b
theorem depth_eR (r : List Hold) : (eR r).depth ≤ 3 := depth_tup (n := 2) fun x hx => by
  obtain ⟨h, _, rfl⟩ := List.mem_map.mp hx
  exact depth_eH h
theorem r_neR {Q : AV → Prop} {a b : List Hold} (h : Q (.c (dB (!decide (a = b))))) : gNe (.c (.p (eR a))) (.c (.p (eR b))) Q := r_ne rfl rfl ⟨plain_eR a, plain_eR b, Nat.le_trans (depth_eR a) (by decide)⟩ (by rw [eqv_eR]; exact h)
theorem r_eqR {Q : AV → Prop} {a b : List Hold} (h : Q (.c (dB (decide (a = b))))) : gEq (.c (.p (eR a))) (.c (.p (eR b))) Q := r_eq rfl rfl ⟨plain_eR a, plain_eR b, Nat.le_trans (depth_eR a) (by decide)⟩ (by rw [eqv_eR]; exact h)
theorem eI_eO (a : Option (List Int)) : eI a = eO a := by cases a <;> rfl
theorem r_neEI {Q : AV → Prop} {a b : Option (List Int)} (h : Q (.c (dB (!decide (a = b))))) : gNe (.c (.p (eI a))) (.c (.p (eI b))) Q := by
  rw [eI_eO, eI_eO]
  exact r_neO h
def sp__law_same : DSp := fun _ ds Q _ => ∃ (r r' : List Hold) (b : Body) (s s' : List Int) (top : Int), ds = [.p (eR r), .p (eR r'), .p (eB b), .p (.tuple [eS s, eS s']), dI top] ∧ RockOk r ∧ RockOk r' ∧ BodyOk b ∧ s ∈ goodS r b ∧ s' ∈ goodS r' b ∧ InR r top ∧ InR r' top ∧ topd (goodS r' b) s' top = topd (goodS r b) s top ∧ needO r' b s' top = needO r b s top ∧ fewO r' b s' top = fewO r b s top ∧ parts r' b = parts r b ∧ Q (dB true)
def sp__law_turned : DSp := fun _ ds Q _ => ∃ (r : List Hold) (b : Body) (s : List Int) (top : Int), ds = [.p (eR r), .p (eB b), .p (eS s), dI top] ∧ RockOk r ∧ BodyOk b ∧ s ∈ goodS r b ∧ InR r top ∧ Q (dB true)
theorem upOk_yes {r : List Hold} {y : Int} (h0 : 0 ≤ y) (h1 : y ≤ 13) (h : ∀ a ∈ r, 0 ≤ a.2.1 ∧ a.2.1 ≤ 6) : upOk r (.int y) = true := by
  show (decide (-20 ≤ y) && (decide (y ≤ 20) && r.all fun h => decide (0 ≤ h.2.1 + y) && decide (h.2.1 + y ≤ 20))) = true
  rw [decide_eq_true (show -20 ≤ y by omega), decide_eq_true (show y ≤ 20 by omega), Bool.true_and, Bool.true_and, List.all_eq_true]
  intro a ha
  have := h a ha
  rw [decide_eq_true (show 0 ≤ a.2.1 + y by omega), decide_eq_true (show a.2.1 + y ≤ 20 by omega)]
  rfl
theorem r_sortM {Q : AV → Prop} {x : AV} {l : List (List Int)} (h4 : ∀ t ∈ l, t.length = 4) (hl : l.length ≤ 100000) (ex : x.any = .p (.list (l.map fun t => eS (mirS t)))) (h : Q (.f (.p (.list (srtD (l.map fun t => eS (mirS t))))))) : gSortA [x] Q := by
  have e : (l.map fun t => eS (mirS t)) = (l.map mirS).map eS := by rw [List.map_map]; rfl
  have hso : PySem.W.Sortable ((l.map mirS).map eS) := sortable_eS fun t ht e => by
    obtain ⟨x, hx, rfl⟩ := List.mem_map.mp ht
    have h5 := h4 x hx
    match x, h5, e with
    | [_, _, _, _], _, e => cases e
  refine r_sortL ex (by rw [e]; exact alike_eS _) (by rw [e]; exact hso) (by rw [List.length_map]; exact hl) (fun d hd => ?_) h
  obtain ⟨x, _, rfl⟩ := List.mem_map.mp hd
  exact Nat.le_trans (depth_eS _) (by decide)
end WL

set_option maxRecDepth 100000
set_option maxHeartbeats 1000000
namespace WL
open PySem PySem.Spec PyProof.Rows L2
/-! ### equal data -/
theorem r_neSame {Q : AV → Prop} {x y : AV} {d : PyData} (ex : x.any = .p d) (ey : y.any = .p d) (h1 : d.plain = true) (h2 : d.depth ≤ 60) (h : Q (.c (dB false))) : gNe x y Q := r_ne ex ey ⟨h1, h1, h2⟩ (by rw [PySem.SeqAt.eqv_refl_plain d h1]; exact h)
theorem r_eqSame {Q : AV → Prop} {x y : AV} {d : PyData} (ex : x.any = .p d) (ey : y.any = .p d) (h1 : d.plain = true) (h2 : d.depth ≤ 60) (h : Q (.c (dB true))) : gEq x y Q := r_eq ex ey ⟨h1, h1, h2⟩ (by rw [PySem.SeqAt.eqv_refl_plain d h1]; exact h)
def wS (x : Str) : PyData := .tuple [.str x]
theorem depth_wS (x : Str) : (wS x).depth ≤ 1 := depth_tup (n := 0) fun y hy => by
  obtain rfl : y = .str x := by simpa using hy
  exact Nat.zero_le _
theorem q_neW {Q : AV → Prop} {x : Str} (h : Q (.c (dB false))) : gNe (.c (.p (.tuple [.str x]))) (.c (.p (.tuple [.str x]))) Q := r_neSame rfl rfl rfl (Nat.le_trans (depth_wS x) (by decide)) h
theorem depth_ret {d : PyData} {n : Nat} (h : d.depth ≤ n) : (PyData.tuple [.str "returns", d]).depth ≤ n + 1 := depth_tup (n := n) fun y hy => by
  simp only [List.mem_cons, List.not_mem_nil, or_false] at hy
  rcases hy with rfl | rfl
  · exact Nat.zero_le _
  · exact h
theorem plain_ret {d : PyData} (h : d.plain = true) : (PyData.tuple [.str "returns", d]).plain = true := by
  simp only [PyData.plain, PyData.plainAll, h]
  rfl
/-- the answer is as due -/
theorem q_neR {Q : AV → Prop} {d : PyData} (h1 : d.plain = true) (h2 : d.depth ≤ 50) (h : Q (.c (dB false))) : gNe (.c (.p (.tuple [.str "returns", d]))) (.c (.p (.tuple [.str "returns", d]))) Q := r_neSame rfl rfl (plain_ret h1) (Nat.le_trans (depth_ret h2) (by decide)) h
/-- lists of error names -/
theorem q_neL {Q : AV → Prop} {x y : AV} {ss : List Str} (ex : x.any = .p (.list (ss.map wS)) := by rfl) (ey : y.any = .p (.list (ss.map wS)) := by rfl) (h : Q (.c (dB false))) : gNe x y Q := r_neSame ex ey (plain_lst (plain_all fun z hz => by
  obtain ⟨s, _, rfl⟩ := List.mem_map.mp hz
  rfl)) (Nat.le_trans (depth_lst (n := 1) fun z hz => by
  obtain ⟨s, _, rfl⟩ := List.mem_map.mp hz
  exact depth_wS s) (by decide)) h
section
variable {ec : Str → Addr} {tw : Tw} {Q : D → Prop} {E : Value → Prop}
/-- errors of arguments -/
theorem b_higher {r : List Hold} {y : PyData} (hr : RockOk r) (hy : y.plain = true) (hb : upOk r y = false) (h : E (.ref (ec "InvalidNumber"))) : sp_higher ec tw [.p (eR r), .p y] Q E := ⟨_, _, rfl, plain_eR r, hy, use_ckR hr (by rw [hb]; exact h)⟩
theorem b_mirS {y : PyData} (hy : y.plain = true) (hb : areBtw y 4 0 6 = false) (h : E (.ref (ec "InvalidStance"))) : sp_mirrored_stance ec tw [.p y] Q E := ⟨_, rfl, hy, by rw [hb]; exact h⟩
theorem b_mirR {y : PyData} (hy : y.plain = true) (hb : rockOk y = false) (h : E (.ref (ec "InvalidRock"))) : sp_mirrored ec tw [.p y] Q E := ⟨_, rfl, hy, by unfold CkR; rw [hb]; exact h⟩
theorem b_higherR {y z : PyData} (hy : y.plain = true) (hz : z.plain = true) (hb : rockOk y = false) (h : E (.ref (ec "InvalidRock"))) : sp_higher ec tw [.p y, .p z] Q E := ⟨_, _, rfl, hy, hz, by unfold CkR; rw [hb]; exact h⟩
end
theorem len4 {s : List Int} (h : s.length = 4) : ∃ i j k l, s = [i, j, k, l] := match s, h with
  | [i, j, k, l], _ => ⟨i, j, k, l, rfl⟩
theorem btw4 {i j k l lo hi : Int} (h : ∀ z ∈ [i, j, k, l], lo ≤ z ∧ z < hi + 1) : areBtw (eS [i, j, k, l]) 4 lo hi = true := areBtw_ints rfl fun z hz => by
  have := h z hz
  omega
theorem depth_eR' (r : List Hold) : (eR r).depth ≤ 50 := Nat.le_trans (depth_eR r) (by decide)
theorem mapR_mir (r : List Hold) : (r.map fun h : Hold => eH (20 - h.1, h.2.1, h.2.2)) = (mirR r).map eH := by
  unfold mirR
  rw [List.map_map]
  rfl
theorem mapR_up (r : List Hold) (y : Int) : (r.map fun h : Hold => eH (h.1, h.2.1 + y, h.2.2)) = (upR r y).map eH := by
  unfold upR
  rw [List.map_map]
  rfl
/-- one of the holds leaves the rock's heights -/
def outY (y : Int) (h : Hold) : Bool := decide (h.2.1 + y < 0) || decide (h.2.1 + y > 20)
theorem up_out {r : List Hold} {y : Int} (h0 : -23 ≤ y) (h1 : y ≤ 22) (h : ∀ a ∈ r, 0 ≤ a.2.1 ∧ a.2.1 ≤ 20) (ne : r ≠ []) : upOk r (.int y) = (r.filter (outY y)).isEmpty := by
  show (decide (-20 ≤ y) && (decide (y ≤ 20) && r.all fun a => decide (0 ≤ a.2.1 + y) && decide (a.2.1 + y ≤ 20))) = _
  rw [Bool.eq_iff_iff, List.isEmpty_iff, List.filter_eq_nil_iff]
  simp only [Bool.and_eq_true, List.all_eq_true, decide_eq_true_eq, outY, Bool.or_eq_true]
  constructor
  · rintro ⟨_, _, h2⟩ a ha
    have := h2 a ha
    omega
  · intro h2
    obtain ⟨a, ha⟩ := List.exists_mem_of_ne_nil r ne
    have g := h2 a ha
    have g2 := h a ha
    refine ⟨by omega, by omega, fun b hb => ?_⟩
    have := h2 b hb
    omega
theorem upOk_no {r : List Hold} {d : PyData} (h : ∀ i, d = .int i → i < -20 ∨ 20 < i) : upOk r d = false := by
  cases d with
  | int i =>
    show (decide (-20 ≤ i) && (decide (i ≤ 20) && _)) = false
    rcases h i rfl with h | h
    · rw [decide_eq_false (by omega)]
      rfl
    · rw [decide_eq_false (show ¬ i ≤ 20 by omega), Bool.false_and, Bool.and_false]
  | _ => rfl
theorem joinP {P : PyData → Prop} {G : Prop} (a : ∀ d, P d) (b : Box (∀ d, P d) → G) : G := b ⟨a⟩
theorem depth_ones {α : Type} {l : List α} {f : α → Int} : (PyData.list (l.map fun x => .int (f x))).depth ≤ 60 := Nat.le_trans (depth_lst (n := 1) fun z hz => by
  obtain ⟨u, _, rfl⟩ := List.mem_map.mp hz
  exact depth_int _) (by decide)
theorem plain_ones {α : Type} {l : List α} {f : α → Int} : (PyData.list (l.map fun x => .int (f x))).plain = true := plain_lst (plain_all fun z hz => by
  obtain ⟨u, _, rfl⟩ := List.mem_map.mp hz
  rfl)
theorem isE_map {α β : Type} (f : α → β) (l : List α) : (l.map f).isEmpty = l.isEmpty := by cases l <;> rfl
theorem q_neOnes {α : Type} {Q : AV → Prop} {l : List α} {i : Int} (h : Q (.c (dB (!l.isEmpty)))) : gNe (.f (.p (.list (l.map fun _ => .int i)))) (.f (.p (.list []))) Q := r_ne rfl rfl ⟨plain_ones, rfl, depth_ones⟩ (by rw [eqv_nil, isE_map]; exact h)
theorem q_eqOnes {α : Type} {Q : AV → Prop} {l : List α} {i : Int} (h : Q (.c (dB l.isEmpty))) : gEq (.f (.p (.list (l.map fun _ => .int i)))) (.f (.p (.list []))) Q := r_eq rfl rfl ⟨plain_ones, rfl, depth_ones⟩ (by rw [eqv_nil, isE_map]; exact h)
end WL

set_option maxRecDepth 100000
set_option maxHeartbeats 1000000
namespace WL
open PySem PySem.Spec PyProof.Rows L2
/-! ### level by level -/
section
variable {α : Type} [DecidableEq α] {rows : List α} {adj : α → α → Bool} {s : α}
/-- ks: all up to the level m; fs: some of the next level -/
structure LI (rows : List α) (adj : α → α → Bool) (s : α) (ks : List α) (m : Nat) (fs : List α) : Prop where
  nd : (ks ++ fs).Nodup
  old : ∀ k, k ∈ ks ↔ ∃ i, i ≤ m ∧ IsD rows adj i s k
  new : ∀ t ∈ fs, IsD rows adj (m + 1) s t
theorem LI.more {ks fs : List α} {m : Nat} {u t : α} (h : LI rows adj s ks m fs) (hu : IsD rows adj m s u) (ht : t ∈ rows) (e : adj u t = true) (n : t ∉ ks ++ fs) : LI rows adj s ks m (fs ++ [t]) := by
  refine ⟨?_, h.old, fun x hx => ?_⟩
  · rw [← List.append_assoc]
    refine List.nodup_append.mpr ⟨h.nd, by simp, fun a ha b hb e' => n ?_⟩
    obtain rfl : b = t := by simpa using hb
    rw [← e']
    exact ha
  · rcases List.mem_append.mp hx with hx | hx
    · exact h.new x hx
    · obtain rfl : x = t := by simpa using hx
      refine ⟨.snoc hu.1 ht e, fun i hi hw => n (List.mem_append_left _ ?_)⟩
      obtain ⟨j, hj, hd⟩ := isD_ex hw
      exact (h.old x).mpr ⟨j, by omega, hd⟩
/-- all that is next to the level was looked at -/
theorem LI.next {ks fs lv : List α} {m : Nat} (h : LI rows adj s ks m fs) (hl : ∀ u, u ∈ lv ↔ IsD rows adj m s u) (k : ∀ u ∈ lv, ∀ t ∈ rows, adj u t = true → t ∈ ks ++ fs) : LI rows adj s (ks ++ fs) (m + 1) [] ∧ ∀ u, u ∈ fs ↔ IsD rows adj (m + 1) s u := by
  have hf : ∀ u, u ∈ fs ↔ IsD rows adj (m + 1) s u := fun u => ⟨h.new u, fun hu => by
    obtain ⟨t, ht, e⟩ := hu.pred
    rcases List.mem_append.mp (k t ((hl t).mpr ht) u hu.1.lst e) with q | q
    · obtain ⟨i, hi, hd⟩ := (h.old u).mp q
      have := hu.uniq hd
      omega
    · exact q⟩
  refine ⟨⟨by rw [List.append_nil]; exact h.nd, fun x => ?_, fun t ht => by cases ht⟩, hf⟩
  rw [List.mem_append, h.old, hf]
  constructor
  · rintro (⟨i, hi, hd⟩ | hd)
    · exact ⟨i, by omega, hd⟩
    · exact ⟨m + 1, Nat.le_refl _, hd⟩
  · rintro ⟨i, hi, hd⟩
    by_cases q : i ≤ m
    · exact .inl ⟨i, q, hd⟩
    · have e : i = m + 1 := by omega
      rw [e] at hd
      exact .inr hd
theorem isD_zero (hs : s ∈ rows) : IsD rows adj 0 s s := ⟨.nil hs, fun m hm => absurd hm (Nat.not_lt_zero _)⟩
theorem LI.start (hs : s ∈ rows) : LI rows adj s [s] 0 [] ∧ ∀ u, u ∈ [s] ↔ IsD rows adj 0 s u := by
  have e : ∀ u, u = s ↔ IsD rows adj 0 s u := fun u => ⟨fun h => by rw [h]; exact isD_zero hs, fun h => h.1.zero.symm⟩
  refine ⟨⟨by simp, fun k => ?_, fun t ht => by cases ht⟩, fun u => by rw [List.mem_singleton]; exact e u⟩
  rw [List.mem_singleton, e]
  exact ⟨fun h => ⟨0, Nat.le_refl _, h⟩, fun ⟨i, hi, h⟩ => by
    obtain rfl : i = 0 := by omega
    exact h⟩
theorem isD_down : ∀ {n : Nat} {u : α}, IsD rows adj n s u → ∀ m, m ≤ n → ∃ t, IsD rows adj m s t
  | 0, u, h, m, hm => by
    obtain rfl : m = 0 := by omega
    exact ⟨u, h⟩
  | n + 1, u, h, m, hm => by
    by_cases q : m = n + 1
    · rw [q]
      exact ⟨u, h⟩
    · obtain ⟨t, ht, _⟩ := h.pred
      exact isD_down ht m (by omega)
/-- all that can be reached, each once -/
structure LDone (rows : List α) (adj : α → α → Bool) (s : α) (ks : List α) : Prop where
  nd : ks.Nodup
  mem : ∀ k, k ∈ ks ↔ Rch rows adj s k
theorem LI.done {ks : List α} {m : Nat} (h : LI rows adj s ks m []) (hl : ∀ u, ¬ IsD rows adj m s u) : LDone rows adj s ks := by
  have nd := h.nd
  rw [List.append_nil] at nd
  refine ⟨nd, fun k => ⟨fun hk => ?_, fun ⟨n, hw⟩ => ?_⟩⟩
  · obtain ⟨i, _, hd⟩ := (h.old k).mp hk
    exact ⟨i, hd.1⟩
  · obtain ⟨j, _, hd⟩ := isD_ex hw
    by_cases q : j ≤ m
    · exact (h.old k).mpr ⟨j, q, hd⟩
    · obtain ⟨t, ht⟩ := isD_down hd m (by omega)
      exact absurd ht (hl t)
theorem LDone.inR {ks : List α} (h : LDone rows adj s ks) : ∀ k ∈ ks, k ∈ rows := fun k hk => by
  obtain ⟨n, hw⟩ := (h.mem k).mp hk
  exact hw.lst
theorem LI.inR {ks fs : List α} {m : Nat} (h : LI rows adj s ks m fs) : ∀ k ∈ ks ++ fs, k ∈ rows := fun k hk => by
  rcases List.mem_append.mp hk with q | q
  · obtain ⟨i, _, hd⟩ := (h.old k).mp q
    exact hd.1.lst
  · exact (h.new k q).1.lst
end
noncomputable def dvP (rows : List (List Int)) (s k : List Int) : PyData := .int (((dist rows adj1 s k).getD 0 : Nat) : Int)
theorem dvP_is {rows : List (List Int)} {s k : List Int} {n : Nat} (h : IsD rows adj1 n s k) : dvP rows s k = .int (n : Int) := by
  unfold dvP
  rw [dist_some.mpr h]
  rfl
def sp__law_near : DSp := fun _ ds Q _ => ∃ (rows : List (List Int)) (s : List Int), ds = [.p (.list (rows.map eS)), .p (eS s)] ∧ rows.length ≤ 2401 ∧ s.length ≤ 1000 ∧ Q (.p (.list ((rows.filter fun t => adj1 s t).map eS)))
def sp__law_levels : DSp := fun _ ds Q _ => ∃ (rows : List (List Int)) (s : List Int), ds = [.p (.list (rows.map eS)), .p (eS s)] ∧ rows.length ≤ 2401 ∧ (∀ x ∈ rows, x.length ≤ 1000) ∧ s ∈ rows ∧ ∀ ks, LDone rows adj1 s ks → Q (.fz ks (ks.map (dvP rows s)))
theorem flatIf {α : Type} (f : α → PyData) (p : α → Bool) : ∀ l : List α, (l.flatMap fun t => if p t = true then [f t] else []) = (l.filter p).map f
  | [] => rfl
  | a :: l => by
    rw [List.flatMap_cons, flatIf f p l]
    cases e : p a with
    | true => rw [if_pos rfl, List.filter_cons_of_pos e]; rfl
    | false => rw [if_neg (by decide), List.filter_cons_of_neg (by rw [e]; decide)]; rfl
theorem take_more {α : Type} {l : List α} {k : Nat} {t : α} (h : l[k]? = some t) : ∀ x ∈ l.take (k + 1), x ∈ l.take k ∨ x = t := fun x hx => by
  rw [List.take_succ, h] at hx
  rcases List.mem_append.mp hx with q | q
  · exact .inl q
  · exact .inr (by simpa using q)
abbrev LSt := List (List Int) × List (List Int) × Nat
structure LJ (rows : List (List Int)) (s : List Int) (st : LSt) : Prop where
  li : LI rows adj1 s st.1 st.2.2 []
  lv : ∀ u, u ∈ st.2.1 ↔ IsD rows adj1 st.2.2 s u
  nd : st.2.1.Nodup
theorem LJ.start {rows : List (List Int)} {s : List Int} (hs : s ∈ rows) : LJ rows s ([s], [s], 0) := ⟨(LI.start hs).1, (LI.start hs).2, by simp⟩
theorem LJ.inR {rows : List (List Int)} {s : List Int} {st : LSt} (h : LJ rows s st) : (∀ k ∈ st.1, k ∈ rows) ∧ st.1.length ≤ rows.length ∧ st.2.1.length ≤ rows.length := by
  have h1 : ∀ k ∈ st.1, k ∈ rows := fun k hk => h.li.inR k (List.mem_append_left _ hk)
  have nd := h.li.nd
  rw [List.append_nil] at nd
  exact ⟨h1, nodup_leG nd h1, nodup_leG h.nd fun k hk => ((h.lv k).mp hk).1.lst⟩
theorem dvP_start {rows : List (List Int)} {s : List Int} (hs : s ∈ rows) : [s].map (dvP rows s) = [.int 0] := by
  rw [List.map_cons, List.map_nil, dvP_is (isD_zero hs)]
  rfl
theorem dvP_snoc {rows : List (List Int)} {s t : List Int} {ks fs : List (List Int)} {m : Nat} (h : IsD rows adj1 (m + 1) s t) : (ks ++ fs).map (dvP rows s) ++ [.int ((m : Int) + 1)] = (ks ++ (fs ++ [t])).map (dvP rows s) := by
  rw [← List.append_assoc, List.map_append (l₂ := [t]), List.map_cons, List.map_nil, dvP_is h]
  rfl
theorem LI.len {rows : List (List Int)} {s : List Int} {ks fs : List (List Int)} {m : Nat} (h : LI rows adj1 s ks m fs) : ks.length + fs.length ≤ rows.length := by
  rw [← List.length_append]
  exact nodup_leG h.nd h.inR
/-! ### top in row[:2] -/
theorem any_top (s : List Int) (top : Int) : (((s.take 2).map PyData.int).any fun z => PyData.eqv z (.int top)) = tops s top := by
  rw [List.any_map]
  unfold tops
  congr 1
theorem q_top {Γ : List SV} {Q : AV → Prop} {E : Value → Prop} {i j : Nat} {s : List Int} {top : Int} {ng : Bool} (h : Q (.c (dB (if ng then !tops s top else tops s top)))) (e1 : Γ[i]? = some (.d (dI top)) := by with_unfolding_all rfl) (e2 : Γ[j]? = some (.d (.p (eS s))) := by with_unfolding_all rfl) :
    dOp (gInP ng) (dVar i) (dSl (dVar j) dNo (dSome (dC (dI 2)))) Γ Q E := by
  refine r_op (r_var e1 (r_sl (r_var e2 (r_no (r_some (r_con (r_somv (r_slwT (ps := s.map .int) rfl ?_))))))))
  rw [show cutD (s.map PyData.int) none (some 2) = (s.take 2).map PyData.int from cut_to PyData.int s 2]
  refine r_inT rfl rfl rfl (plain_ints _) (Nat.le_trans (depth_int _) (by decide)) ?_
  rw [any_top]
  exact h
theorem LDone.topd {rows ks : List (List Int)} {s : List Int} {top : Int} (h : LDone rows adj1 s ks) : (ks.filter fun k => tops k top).isEmpty = !(topd rows s top).isSome := by
  cases e : WL.topd rows s top with
  | none =>
    show _ = true
    rw [List.isEmpty_iff, List.filter_eq_nil_iff]
    intro k hk
    rw [topd_none.mp e k ((h.mem k).mp hk)]
    decide
  | some n =>
    show _ = false
    obtain ⟨⟨g, h1, h2⟩, _⟩ := topd_some.mp e
    have hm : g ∈ ks.filter fun k => tops k top := List.mem_filter.mpr ⟨(h.mem g).mpr ⟨n, h1.1⟩, h2⟩
    cases e2 : ks.filter fun k => tops k top with
    | nil => rw [e2] at hm; cases hm
    | cons _ _ => rfl
theorem r_neRows {Q : AV → Prop} {x y : AV} {a b : List (List Int)} (ex : x.any = .p (.list (a.map eS))) (ey : y.any = .p (.list (b.map eS))) (h : Q (.c (dB (!decide (a = b))))) : gNe x y Q := r_ne ex ey ⟨plain_lst (plain_rows _), plain_lst (plain_rows _), Nat.le_trans (depth_lst (n := 2) fun z hz => by
  obtain ⟨u, _, rfl⟩ := List.mem_map.mp hz
  exact depth_eS u) (by decide)⟩ (by
  rw [PyData.eqv, eqv_rows]
  exact h)
theorem r_neRowsN {Q : AV → Prop} {x y : AV} {a : List (List Int)} (ex : x.any = .p (.list (a.map eS))) (ey : y.any = dN) (h : Q (.c (dB true))) : gNe x y Q := r_ne ex ey ⟨plain_lst (plain_rows _), rfl, Nat.le_trans (depth_lst (n := 2) fun z hz => by
  obtain ⟨u, _, rfl⟩ := List.mem_map.mp hz
  exact depth_eS u) (by decide)⟩ (by
  have e : PyData.eqv (.list (a.map eS)) .none = false := by rw [PyData.eqv] <;> (intros; contradiction)
  rw [e]
  exact h)
/-! ### k18: the least reach, by own levels -/
def sp__law_least : DSp := fun _ ds Q _ => ∃ (r : List Hold) (b : Body) (s : List Int) (top : Int) (w : Nat), ds = [.p (eR r), .p (eB b), .p (eS s), dI top, dI w] ∧ r.length ≤ 7 ∧ w < 4 ∧ s ∈ goodS r b ∧ Q (.p (eN (leastR r b s top w)))
noncomputable def leastP (r : List Hold) (b : Body) (s : List Int) (top : Int) (w : Nat) (k : Nat) : Bool := keptL r (setB b w k) s && can r (setB b w k) s top
theorem least_at {r : List Hold} {b : Body} {s : List Int} {top : Int} {w k : Nat} (hk : k < 21) (h : leastP r b s top w k = true) (n : ∀ j, j < k → leastP r b s top w j = false) : leastR r b s top w = some k := by
  unfold leastR
  rw [List.find?_range_eq_some]
  refine ⟨h, List.mem_range.mpr hk, fun j hj => ?_⟩
  have := n j hj
  unfold leastP at this
  rw [this]
  rfl
theorem least_no {r : List Hold} {b : Body} {s : List Int} {top : Int} {w : Nat} (n : ∀ j, j < 21 → leastP r b s top w j = false) : leastR r b s top w = none := by
  unfold leastR
  rw [List.find?_eq_none]
  intro j hj
  have := n j (List.mem_range.mp hj)
  unfold leastP at this
  rw [this]
  decide
/-- what stands in the slot of the rows before -/
def befD (r : List Hold) (b : Body) (w : Nat) : Nat → D
  | 0 => dN
  | k + 1 => .p (.list ((goodS r (setB b w k)).map eS))
/-! ### arguments that are refused -/
section
variable {ec : Str → Addr} {u v x : PyData} {r : List Hold} {b : Body} {E : Value → Prop}
theorem e_rock {k : List Hold → Body → Prop} (h : E (.ref (ec "InvalidRock"))) (e : rockOk u = false := by rfl) : CkB ec u v E k := by
  unfold CkB
  rw [e]
  exact h
theorem e_body {k : List Hold → Body → Prop} (h : E (.ref (ec "InvalidBody"))) (e : bodyOk v = false := by rfl) (hr : RockOk r := by assumption) : CkB ec (eR r) v E k := by
  unfold CkB
  rw [if_pos (rockOk_eR hr), e]
  exact h
theorem e_pose {k : List Int → Prop} (h : E (.ref (ec "InvalidStance"))) (e : goodOne r b x = false := by rfl) : CkS ec r b x E k := by
  unfold CkS
  rw [e]
  exact h
theorem e_hold {k : Int → Prop} (h : E (.ref (ec "InvalidHold"))) (e : btw x 0 (r.length - 1) = false := by rfl) : CkH ec r x E k := by
  unfold CkH
  rw [e]
  exact h
theorem e_num {k : Nat → Prop} (h : E (.ref (ec "InvalidNumber"))) (e : btw x 0 3 = false := by rfl) : CkN ec x E k := by
  unfold CkN
  rw [e]
  exact h
end
theorem btw_big {r : List Hold} {i : Int} (hl : r.length ≤ 7) (h : 7 ≤ i) : btw (.int i) 0 (r.length - 1) = false := by
  rw [btw_int, decide_eq_false (show ¬ i ≤ (r.length : Int) - 1 by omega), Bool.and_false]
/-- four limbs on the first hold -/
theorem bad_zero {r : List Hold} {b : Body} (hr : RockOk r) : goodOne r b (eS [0, 0, 0, 0]) = false := by
  have h0 : ∀ i ∈ ([0, 0, 0, 0] : List Int), 0 ≤ i ∧ i < (r.length : Int) := fun i hi => by
    have := hr.pos
    simp only [List.mem_cons, List.not_mem_nil, or_false] at hi
    omega
  rw [goodOne_eS rfl h0]
  have h2 : (hd r 0).2.2 ≤ 2 := by
    cases e : r with
    | nil => have := hr.pos; rw [e] at this; cases this
    | cons a l => exact (hr.hold a (by rw [e]; simp)).2.2.2
  have hroom : roomOk r [0, 0, 0, 0] = false := by
    unfold roomOk
    refine List.all_eq_false.mpr ⟨0, by simp, ?_⟩
    rw [decide_eq_true_eq]
    intro h
    have e : (([0, 0, 0, 0] : List Int).countP fun z => decide (z = 0)) = 4 := by decide
    rw [e] at h
    omega
  show kept r b 0 0 0 0 = false
  unfold kept
  rw [hroom]
  rfl
section
variable {ec : Str → Addr} {u v x : PyData} {r : List Hold} {a b : Body} {E : Value → Prop}
theorem e_rockR {k : List Hold → Prop} (h : E (.ref (ec "InvalidRock"))) (e : rockOk u = false := by rfl) : CkR ec u E k := by
  unfold CkR
  rw [e]
  exact h
theorem e_bb1 {k : Body → Body → Prop} (h : E (.ref (ec "InvalidBody"))) (e : bodyOk u = false := by rfl) : CkBB ec u v E k := by
  unfold CkBB
  rw [e]
  exact h
theorem e_bb2 {k : Body → Body → Prop} (h : E (.ref (ec "InvalidBody"))) (e : bodyOk v = false := by rfl) (ha : BodyOk a := by assumption) : CkBB ec (eB a) v E k := by
  unfold CkBB
  rw [if_pos (bodyOk_eB ha), e]
  exact h
end
theorem r_eqL0 {Q : AV → Prop} {x : AV} {a : List (List Int)} (e : x.any = .p (.list (a.map eS))) (h : Q (.c (dB a.isEmpty))) : gEq x (.f (.p (.list []))) Q := r_eq e rfl ⟨plain_lst (plain_rows _), rfl, Nat.le_trans (depth_lst (n := 2) fun z hz => by
  obtain ⟨u, _, rfl⟩ := List.mem_map.mp hz
  exact depth_eS u) (by decide)⟩ (by
  rw [eqv_nil, isE_map]
  exact h)
theorem r_sortP {Q : AV → Prop} {x : AV} {r : List Hold} {a b : Body} (hl : r.length ≤ 7) (ex : x.any = .p (.list (((goodS r a).filter fun s => !inB (goodS r b) s).map eS ++ ((goodS r b).filter fun s => !inB (goodS r a) s).map eS))) (h : Q (.f (.p (.list ((partS r a b).map eS))))) : gSortA [x] Q := by
  have m1 := good_len r a hl
  have m2 := good_len r b hl
  have m3 := List.length_filter_le (fun s => !inB (goodS r b) s) (goodS r a)
  have m4 := List.length_filter_le (fun s => !inB (goodS r a) s) (goodS r b)
  have nn : ∀ s ∈ (goodS r a).filter (fun s => !inB (goodS r b) s) ++ (goodS r b).filter (fun s => !inB (goodS r a) s), s ≠ [] := fun s hs e => by
    rcases List.mem_append.mp hs with h | h
    · have := (mem_good.mp (List.mem_filter.mp h).1).1
      rw [e] at this
      cases this
    · have := (mem_good.mp (List.mem_filter.mp h).1).1
      rw [e] at this
      cases this
  refine r_sortL ex (by rw [← List.map_append]; exact alike_eS _) (by rw [← List.map_append]; exact sortable_eS nn) (by rw [List.length_append, List.length_map, List.length_map]; omega) (fun d hd => ?_) ?_
  · rw [← List.map_append] at hd
    obtain ⟨s, _, rfl⟩ := List.mem_map.mp hd
    exact Nat.le_trans (depth_eS s) (by decide)
  · rw [srt_part]
    exact h
/-! ### k21 -/
theorem joinBO {P : Body → Option D → Prop} {G : Prop} (a : ∀ c o, BodyOk c → P c o) (b : Box (∀ c o, BodyOk c → P c o) → G) : G := b ⟨a⟩
def pairsB (a b : Body) : List (Int × Int) := [(a.1, b.1), (a.2.1, b.2.1), (a.2.2.1, b.2.2.1), (a.2.2.2, b.2.2.2)]
theorem pairs_wider (a b : Body) : ((pairsB a b).filter fun p => decide (p.1 < p.2)).isEmpty = wider a b := by
  rw [Bool.eq_iff_iff, List.isEmpty_iff, List.filter_eq_nil_iff]
  unfold pairsB wider
  simp only [List.forall_mem_cons, Bool.and_eq_true, decide_eq_true_eq, Int.not_lt]
  constructor
  · rintro ⟨h1, h2, h3, h4, _⟩
    exact ⟨h1, h2, h3, h4⟩
  · rintro ⟨h1, h2, h3, h4⟩
    exact ⟨h1, h2, h3, h4, fun x hx => by cases hx⟩
/-! ### _law_kept, loop by loop -/
def pairs6 : List (Int × Int) := [(0, 1), (2, 3), (0, 2), (0, 3), (1, 2), (1, 3)]
def at4 (i j k l n : Int) : Int := if n = 0 then i else if n = 1 then j else if n = 2 then k else l
def farOf (r : List Hold) (b : Body) (i j k l : Int) (p : Int × Int) : Bool := farP r (if p.2 = 1 then b.1 else if p.1 = 2 then b.2.1 else b.2.2.1) (at4 i j k l p.1) (at4 i j k l p.2)
def lowOf (r : List Hold) (i j k l n : Int) : Bool := lowB r (at4 i j k l n) i j
def crossOf (r : List Hold) (b : Body) (i j k l n : Int) : Bool := crossB r (at4 i j k l n) (at4 i j k l (n + 1)) b.2.2.2
theorem lkept_any (r : List Hold) (b : Body) (i j k l : Int) : lkept r b i j k l = (!([i, j, k, l].any (fullB r [i, j, k, l])) && (!(pairs6.any (farOf r b i j k l)) && (!(([2, 3] : List Int).any (lowOf r i j k l)) && !(([0, 2] : List Int).any (crossOf r b i j k l))))) := by
  have f1 : farOf r b i j k l (0, 1) = farP r b.1 i j := rfl
  have f2 : farOf r b i j k l (2, 3) = farP r b.2.1 k l := rfl
  have f3 : farOf r b i j k l (0, 2) = farP r b.2.2.1 i k := rfl
  have f4 : farOf r b i j k l (0, 3) = farP r b.2.2.1 i l := rfl
  have f5 : farOf r b i j k l (1, 2) = farP r b.2.2.1 j k := rfl
  have f6 : farOf r b i j k l (1, 3) = farP r b.2.2.1 j l := rfl
  have l2 : lowOf r i j k l 2 = lowB r k i j := rfl
  have l3 : lowOf r i j k l 3 = lowB r l i j := rfl
  have c0 : crossOf r b i j k l 0 = crossB r i j b.2.2.2 := rfl
  have c2 : crossOf r b i j k l 2 = crossB r k l b.2.2.2 := rfl
  unfold lkept pairs6
  simp only [List.any_cons, List.any_nil, f1, f2, f3, f4, f5, f6, l2, l3, c0, c2, Bool.or_false, Bool.not_or, Bool.and_assoc]
theorem any_find {α : Type} {p : α → Bool} {l : List α} {a : α} (h : l.find? p = some a) : l.any p = true := List.any_eq_true.mpr ⟨a, List.mem_of_find?_eq_some h, List.find?_some h⟩
theorem any_none {α : Type} {p : α → Bool} {l : List α} (h : l.find? p = none) : l.any p = false := List.any_eq_false.mpr fun a ha => by
  have := List.find?_eq_none.mp h a ha
  simpa using this
/-! tests that are told by their looks -/
theorem k_t {A B : Prop} {k : Bool} (h : A) (e : k = true := by first | with_reducible rfl | decide) : (if k = true then A else B) := r_t e h
theorem k_f {A B : Prop} {k : Bool} (h : B) (e : k = false := by first | with_reducible rfl | decide) : (if k = true then A else B) := r_f e h
theorem q_mulL {Q : AV → Prop} {x : AV} {ps : List PyData} {n : Int} (h : Q (.f (.p (.list (List.replicate n.toNat ps).flatten)))) (e1 : x.any = .p (.list ps) := by rfl) (h1 : n ≤ 1000 := by decide) (h2 : -1000 ≤ n := by decide) (hl : ps.length ≤ 1000 := by simp) : gMulP x (.c (dI n)) Q := by unfold gMulP; rw [e1]; exact ⟨h1, h2, hl, h⟩
theorem LDone.hasC {r : List Hold} {b : Body} {x y : List Int} {ks : List (List Int)} (h : LDone (goodS r b) adj1 x ks) (hy : y ∈ goodS r b) : hasK ks y = decide (comp r b y = comp r b x) := by
  rw [hasK_dec, Bool.eq_iff_iff, decide_eq_true_eq, decide_eq_true_eq, h.mem y]
  exact ⟨fun h => ((comp_eq hy).mpr h).symm, fun h => (comp_eq hy).mp h.symm⟩
theorem LDone.srt {r : List Hold} {b : Body} {s : List Int} {ks : List (List Int)} (h : LDone (goodS r b) adj1 s ks) : srtD (ks.map eS) = (comp r b s).map eS :=
  srt_is (comp_asc r b s) h.nd fun x => (h.mem x).trans mem_comp.symm
theorem r_sortD {r : List Hold} {b : Body} {s : List Int} {Q : AV → Prop} {x : AV} {ks : List (List Int)} {ds : List PyData} (h : LDone (goodS r b) adj1 s ks) (hl : r.length ≤ 7) (ex : x.any = .fz ks ds) (q : Q (.f (.p (.list ((comp r b s).map eS))))) : gSortA [x] Q := by
  refine r_sortK ex (sortable_eS fun t ht e => ?_) ?_ ?_
  · have := (mem_good.mp (h.inR t ht)).1
    rw [e] at this
    cases this
  · have := nodup_leG h.nd h.inR
    have := good_len r b hl
    omega
  · rw [show ks.map tupK = ks.map eS from rfl, h.srt]
    exact q
theorem joinO {P : Option D → Prop} {G : Prop} (a : ∀ o, P o) (b : Box (∀ o, P o) → G) : G := b ⟨a⟩
/-! ### k15: needs, by own levels -/
def Holds (hs : List Int) (y : PyData) : Prop := y = .list (hs.map .int) ∨ y = .tuple (hs.map .int)
def sp__law_goes : DSp := fun _ ds Q _ => ∃ (r : List Hold) (b : Body) (s : List Int) (top : Int) (hs : List Int) (y : PyData), ds = [.p (.list ((goodS r b).map eS)), .p (eS s), dI top, .p y] ∧ r.length ≤ 7 ∧ s ∈ goodS r b ∧ Holds hs y ∧ Q (dB (canOn r b s top hs))
def sp__law_subsets : DSp := sp_subsets_of
theorem r_inY {Q : AV → Prop} {ng : Bool} {x : Int} {hs : List Int} {y : PyData} (hy : Holds hs y) (h : Q (.c (dB (if ng then !decide (x ∈ hs) else decide (x ∈ hs))))) : gInP ng (.c (dI x)) (.c (.p y)) Q := by
  rcases hy with rfl | rfl
  · refine r_inL rfl rfl rfl (plain_ints _) (Nat.le_trans (depth_int _) (by decide)) ?_
    rw [any_int]
    exact h
  · refine r_inT rfl rfl rfl (plain_ints _) (Nat.le_trans (depth_int _) (by decide)) ?_
    rw [any_int]
    exact h
theorem sub_is (t hs : List Int) : (t.filter fun x => !decide (x ∈ hs)).isEmpty = t.all fun x => decide (x ∈ hs) := by
  rw [Bool.eq_iff_iff, List.isEmpty_iff, List.filter_eq_nil_iff, List.all_eq_true]
  constructor
  · intro h x hx
    have := h x hx
    simpa using this
  · intro h x hx
    have := h x hx
    simpa using this
theorem r_eqInts {Q : AV → Prop} {x : AV} {l : List Int} (ex : x.any = .p (.list (l.map .int))) (h : Q (.c (dB l.isEmpty))) : gEq x (.f (.p (.list []))) Q := r_eq ex rfl ⟨plain_lst (plain_ints _), rfl, Nat.le_trans (depth_lst (n := 1) fun z hz => by
  obtain ⟨u, _, rfl⟩ := List.mem_map.mp hz
  exact depth_int u) (by decide)⟩ (by rw [eqv_nil, isE_map]; exact h)
theorem canOn_out {r : List Hold} {b : Body} {s : List Int} {top : Int} {hs : List Int} (h : inB (subS r b hs) s = false) : canOn r b s top hs = false := by
  unfold canOn
  have e : WL.topd (subS r b hs) s top = none := topd_none.mpr fun g ⟨n, hw⟩ => by
    rw [inB_iff.mpr hw.fst] at h
    cases h
  rw [e]
  rfl
theorem sub_full (r : List Hold) (b : Body) : subS r b (holdsN r.length) = goodS r b := by
  unfold subS
  refine List.filter_eq_self.mpr fun t ht => List.all_eq_true.mpr fun x hx => ?_
  have := (mem_good.mp ht).2.1 x hx
  exact decide_eq_true (mem_holdsN.mpr this)
theorem canOn_full (r : List Hold) (b : Body) (s : List Int) (top : Int) : canOn r b s top (holdsN r.length) = can r b s top := by
  unfold canOn can
  rw [sub_full]
theorem joinS {P : SV → Prop} {G : Prop} (a : ∀ x, P x) (b : Box (∀ x, P x) → G) : G := b ⟨a⟩
theorem find_head {α : Type} (p : α → Bool) (l : List α) : l.find? p = (l.filter p).head? := by
  induction l with
  | nil => rfl
  | cons a l ih =>
    cases e : p a with
    | true => rw [List.find?_cons, e, List.filter_cons_of_pos e]; rfl
    | false => rw [List.find?_cons, e, List.filter_cons_of_neg (by rw [e]; decide)]; exact ih
theorem joinSO {P : SV → Option D → Prop} {G : Prop} (a : ∀ x o, P x o) (b : Box (∀ x o, P x o) → G) : G := b ⟨a⟩
theorem subsL_len (n : Nat) (h : n ≤ 7) : (subsL n).length ≤ 128 := by
  unfold subsL
  rw [List.length_mergeSort, powN_len]
  exact Nat.pow_le_pow_right (by decide) h
end WL

set_option maxRecDepth 100000
set_option maxHeartbeats 1000000
namespace WL
open PySem PySem.Spec PyProof.Rows L2
/-! ### k09: tops, by own levels -/
def climbB (s : List Int) (top : Int) (l : List (List Int)) : Bool := decide (l.head? = some s) && (pairsOk adj1 l && ((l.getLast?.any fun x => tops x top) && !(l.dropLast.any fun x => tops x top)))
theorem decS_rows (l : List (List Int)) : (l.map eS).map decS = l := by
  rw [List.map_map]
  have : decS ∘ eS = id := funext decS_eS
  rw [this, List.map_id]
theorem climb_isB {r : List Hold} {b : Body} {s : List Int} {top : Int} {l : List (List Int)} (h : ∀ x ∈ l, x ∈ goodS r b) : isClimb r b s top (.tuple (l.map eS)) = climbB s top l := by
  show (anyWay r b (.tuple (l.map eS)) && (decide (((l.map eS).map decS).head? = some s) && ((((l.map eS).map decS).getLast?.any fun x => tops x top) && !(((l.map eS).map decS).dropLast.any fun x => tops x top)))) = _
  rw [anyWay_tup h, decS_rows]
  unfold climbB
  cases l with
  | nil => rfl
  | cons a l =>
    show (true && pairsOk adj1 (a :: l) && _) = _
    rw [Bool.true_and]
    exact Bool.and_left_comm _ _ _
theorem near_in {r : List Hold} {b : Body} {x y : List Int} (hy : y ∈ goodS r b) : inB ((goodS r b).filter fun t => adj1 x t) y = adj1 x y := by
  rw [Bool.eq_iff_iff, inB_iff, List.mem_filter]
  exact ⟨fun h => h.2, fun h => ⟨hy, h⟩⟩
def topIx (top : Int) (l : List (List Int)) : List Int := (((List.range l.length).zip l).filter fun p => tops p.2 top).map fun p => (p.1 : Int)
theorem topIx_snoc (top : Int) (l : List (List Int)) (x : List Int) : topIx top (l ++ [x]) = topIx top l ++ if tops x top = true then [(l.length : Int)] else [] := by
  unfold topIx
  rw [List.length_append, List.length_singleton, List.range_succ, List.zip_append (by rw [List.length_range]), List.filter_append, List.map_append]
  congr 1
  cases e : tops x top with
  | true => simp [e]
  | false => simp [e]
theorem topIx_lt {top : Int} {l : List (List Int)} : ∀ i ∈ topIx top l, i < l.length := fun i hi => by
  unfold topIx at hi
  obtain ⟨p, hp, rfl⟩ := List.mem_map.mp hi
  have := List.mem_range.mp (List.of_mem_zip (List.mem_filter.mp hp).1).1
  omega
theorem topIx_nil {top : Int} : ∀ {l : List (List Int)}, (topIx top l = [] ↔ (l.any fun x => tops x top) = false) := by
  intro l
  unfold topIx
  rw [List.map_eq_nil_iff, List.filter_eq_nil_iff, List.any_eq_false]
  constructor
  · intro h x hx
    obtain ⟨i, hi, e⟩ := List.mem_iff_getElem.mp hx
    refine h (i, x) (List.mem_iff_getElem.mpr ⟨i, by rw [List.length_zip, List.length_range]; omega, ?_⟩)
    rw [List.getElem_zip, List.getElem_range, e]
  · intro h p hp
    exact h p.2 (List.of_mem_zip hp).2
theorem topIx_is {top : Int} {l : List (List Int)} {x : List Int} : decide (topIx top (l ++ [x]) = [(l.length : Int)]) = (tops x top && !(l.any fun y => tops y top)) := by
  rw [topIx_snoc]
  cases e : tops x top with
  | true =>
    rw [if_pos rfl, Bool.true_and]
    cases e2 : (l.any fun y => tops y top) with
    | false =>
      rw [topIx_nil.mpr e2]
      exact decide_eq_true rfl
    | true =>
      refine decide_eq_false fun h => ?_
      have h2 : topIx top l = [] := by
        have := congrArg List.length h
        rw [List.length_append, List.length_singleton] at this
        exact List.length_eq_zero_iff.mp (by simpa using this)
      rw [topIx_nil.mp h2] at e2
      cases e2
  | false =>
    rw [if_neg (by decide), List.append_nil, Bool.false_and]
    refine decide_eq_false fun h => ?_
    have := topIx_lt (l := l) (top := top) (l.length : Int) (by rw [h]; simp)
    omega
theorem enumD_map (l : List (List Int)) : enumD (l.map eS) = ((List.range l.length).zip l).map fun p => .tuple [.int (p.1 : Nat), eS p.2] := by
  unfold enumD
  rw [List.length_map, List.zipWith_map_right, List.map_zip_eq_zipWith]
  rfl
theorem min_ints : ∀ (ns : List Nat) (n0 : Nat), ∃ m ∈ n0 :: ns, PySem.W.minD (.int (n0 : Int)) (ns.map fun (n : Nat) => .int (n : Int)) = .int (m : Int) ∧ ∀ x ∈ n0 :: ns, m ≤ x
  | [], n0 => ⟨n0, by simp, rfl, fun x hx => by
    obtain rfl : x = n0 := by simpa using hx
    exact Nat.le_refl _⟩
  | n1 :: ns, n0 => by
    have st : PySem.W.minD (.int (n0 : Int)) ((n1 :: ns).map fun (n : Nat) => .int (n : Int)) = PySem.W.minD (if PySem.W.dataLt (.int (n1 : Int)) (.int (n0 : Int)) then .int (n1 : Int) else .int (n0 : Int)) (ns.map fun (n : Nat) => .int (n : Int)) := rfl
    rw [st, PySem.W.dataLt_int]
    by_cases h : (n1 : Int) < n0
    · rw [decide_eq_true h, if_pos rfl]
      obtain ⟨m, h1, h2, h3⟩ := min_ints ns n1
      refine ⟨m, List.mem_cons_of_mem _ h1, h2, fun x hx => ?_⟩
      rcases List.mem_cons.mp hx with rfl | hx
      · have := h3 n1 (by simp)
        omega
      · exact h3 x hx
    · rw [decide_eq_false h, if_neg (by decide)]
      obtain ⟨m, h1, h2, h3⟩ := min_ints ns n0
      refine ⟨m, ?_, h2, fun x hx => ?_⟩
      · rcases List.mem_cons.mp h1 with h | h
        · rw [h]; simp
        · exact List.mem_cons_of_mem _ (List.mem_cons_of_mem _ h)
      · rcases List.mem_cons.mp hx with rfl | hx
        · exact h3 x (by simp)
        · rcases List.mem_cons.mp hx with rfl | hx
          · have := h3 n0 (by simp)
            omega
          · exact h3 x (List.mem_cons_of_mem _ hx)
noncomputable def dvN (rows : List (List Int)) (s k : List Int) : Nat := (dist rows adj1 s k).getD 0
theorem dvP_N (rows : List (List Int)) (s : List Int) (ks : List (List Int)) : ks.map (dvP rows s) = (ks.map (dvN rows s)).map fun (n : Nat) => .int (n : Int) := by
  rw [List.map_map]
  rfl
theorem dvN_is {rows : List (List Int)} {s k : List Int} {n : Nat} (h : IsD rows adj1 n s k) : dvN rows s k = n := by
  unfold dvN
  rw [dist_some.mpr h]
  rfl
/-- the least of the distances of those that top -/
theorem LDone.minT {rows ks : List (List Int)} {s k0 : List Int} {l : List (List Int)} {top : Int} (h : LDone rows adj1 s ks) (e : (ks.filter fun k => tops k top) = k0 :: l) : PySem.W.minD (dvP rows s k0) (l.map (dvP rows s)) = eN (WL.topd rows s top) := by
  have hd : ∀ k ∈ k0 :: l, ∃ n, IsD rows adj1 n s k ∧ tops k top = true := fun k hk => by
    rw [← e] at hk
    obtain ⟨hk, ht⟩ := List.mem_filter.mp hk
    obtain ⟨n, hw⟩ := (h.mem k).mp hk
    obtain ⟨m, _, hm⟩ := isD_ex hw
    exact ⟨m, hm, ht⟩
  obtain ⟨m, h1, h2, h3⟩ := min_ints (l.map (dvN rows s)) (dvN rows s k0)
  rw [dvP_N]
  show PySem.W.minD (.int ((dvN rows s k0 : Nat) : Int)) _ = _
  rw [h2]
  have hT : IsT rows s top m := by
    have h1 : m ∈ (k0 :: l).map (dvN rows s) := h1
    obtain ⟨g, hg, rfl⟩ := List.mem_map.mp h1
    obtain ⟨n, hn, ht⟩ := hd g hg
    refine ⟨⟨g, by rw [dvN_is hn]; exact hn, ht⟩, fun g' n' hw ht' => ?_⟩
    obtain ⟨j, hj, hjd⟩ := isD_ex hw
    have hm : g' ∈ k0 :: l := by
      rw [← e]
      exact List.mem_filter.mpr ⟨(h.mem g').mpr ⟨n', hw⟩, ht'⟩
    have := h3 (dvN rows s g') (List.mem_map.mpr ⟨g', hm, rfl⟩)
    rw [dvN_is hjd] at this
    omega
  rw [topd_some.mpr hT]
  rfl
def sp__law_climb : DSp := fun _ ds Q _ => ∃ (r : List Hold) (b : Body) (s : List Int) (top : Int) (l : List (List Int)), ds = [.p (.list ((goodS r b).map eS)), .p (eS s), dI top, .p (.tuple (l.map eS))] ∧ r.length ≤ 7 ∧ (∀ x ∈ l, x ∈ goodS r b) ∧ l.length ≤ 50000 ∧ Q (dB (climbB s top l))
def sp__law_top9 (ec : Str → Addr) : DSp := fun _ ds Q _ => ∃ (r : List Hold) (b : Body) (s : List Int) (top : Int), ds = [.p (eR r), .p (eB b), .p (.list ((goodS r b).map eS)), .p (eS s), dI top] ∧ RockOk r ∧ r.length ≤ 5 ∧ BodyOk b ∧ s ∈ goodS r b ∧ InR r top ∧ Q (dB true)
theorem r_eqIntsL {Q : AV → Prop} {x y : AV} {a b : List Int} (ex : x.any = .p (.list (a.map .int))) (ey : y.any = .p (.list (b.map .int))) (h : Q (.c (dB (decide (a = b))))) : gEq x y Q := r_eq ex ey ⟨plain_lst (plain_ints _), plain_lst (plain_ints _), Nat.le_trans (depth_lst (n := 1) fun z hz => by
  obtain ⟨u, _, rfl⟩ := List.mem_map.mp hz
  exact depth_int u) (by decide)⟩ (by
  have e : PyData.eqv (.list (a.map .int)) (.list (b.map .int)) = decide (a = b) := by
    rw [PyData.eqv, eqv_ints]
  rw [e]
  exact h)
theorem atD_map (f : List Int → PyData) : ∀ {ks : List (List Int)} {k : List Int}, k ∈ ks → atD ks (ks.map f) k = some (f k)
  | k' :: ks, k, h => by
    show (if k' = k then some (f k') else atD ks (ks.map f) k) = _
    by_cases e : k' = k
    · rw [if_pos e, e]
    · rw [if_neg e]
      rcases List.mem_cons.mp h with h | h
      · exact absurd h.symm e
      · exact atD_map f h
theorem r_dgetM {Q : AV → Prop} {ks : List (List Int)} {k : List Int} {f : List Int → PyData} (hk : k ∈ ks) (h : Q (.c (.p (f k)))) : gDGet (.c (.fz ks (ks.map f))) (.c (.p (eS k))) Q := r_dget rfl rfl (by rw [keyD_ints]; exact atD_map f hk) h
theorem climbB_hd {s c : List Int} {top : Int} {l : List (List Int)} (hc : l.head? = some c) (h : decide (c = s) = false) : climbB s top l = false := by
  unfold climbB
  rw [hd_dec hc, h]
  rfl
theorem climbB_rest {s c : List Int} {top : Int} {l : List (List Int)} (hc : l.head? = some c) (h : decide (c = s) = true) : climbB s top l = (pairsOk adj1 l && ((l.getLast?.any fun x => tops x top) && !(l.dropLast.any fun x => tops x top))) := by
  unfold climbB
  rw [hd_dec hc, h, Bool.true_and]
theorem topIx_last {top : Int} {l : List (List Int)} (hl : l ≠ []) : decide (topIx top l = [((l.length : Int) - 1)]) = ((l.getLast?.any fun x => tops x top) && !(l.dropLast.any fun x => tops x top)) := by
  obtain ⟨l', x, rfl⟩ : ∃ l' x, l = l' ++ [x] := ⟨l.dropLast, l.getLast hl, (List.dropLast_concat_getLast hl).symm⟩
  have e : (((l' ++ [x]).length : Int) - 1) = (l'.length : Int) := by
    rw [List.length_append, List.length_singleton]
    omega
  rw [e, topIx_is, List.getLast?_concat, List.dropLast_concat]
  rfl
theorem alikeAll_ints (ns : List Nat) : PySem.W.AlikeAll (ns.map fun (n : Nat) => PyData.int (n : Int)) := ⟨fun x hx y hy => by
  obtain ⟨a, _, rfl⟩ := List.mem_map.mp hx
  obtain ⟨b, _, rfl⟩ := List.mem_map.mp hy
  rw [PySem.W.alike], fun x hx e => by
  obtain ⟨a, _, rfl⟩ := List.mem_map.mp hx
  cases e⟩
theorem depth_min : ∀ (ns : List Nat), PyData.depthAll (ns.map fun (n : Nat) => PyData.int (n : Int)) ≤ 50
  | [] => by rw [List.map_nil, PyData.depthAll]; exact Nat.zero_le _
  | n :: ns => by
    rw [List.map_cons, PyData.depthAll]
    have := depth_min ns
    have := depth_int (n : Int)
    omega
theorem r_minT {Q : AV → Prop} {rows ks : List (List Int)} {s k0 : List Int} {l : List (List Int)} {top : Int} {x : AV} (h : LDone rows adj1 s ks) (e : (ks.filter fun k => tops k top) = k0 :: l) (ex : x.any = .p (.list ((ks.filter fun k => tops k top).map (dvP rows s)))) (q : Q (.c (.p (eN (WL.topd rows s top))))) : gMinL [x] Q := by
  rw [e, dvP_N] at ex
  refine r_minL (p := .int ((dvN rows s k0 : Nat) : Int)) (ps := (l.map (dvN rows s)).map fun (n : Nat) => .int (n : Int)) ex (alikeAll_ints (dvN rows s k0 :: l.map (dvN rows s))) (depth_min (dvN rows s k0 :: l.map (dvN rows s))) ?_
  have := h.minT e
  rw [dvP_N] at this
  rw [show PySem.W.minD (.int ((dvN rows s k0 : Nat) : Int)) ((l.map (dvN rows s)).map fun (n : Nat) => .int (n : Int)) = eN (WL.topd rows s top) from this]
  exact q
theorem r_neL0D {Q : AV → Prop} {x : AV} {rows ks : List (List Int)} {s : List Int} (ex : x.any = .p (.list (ks.map (dvP rows s)))) (h : Q (.c (dB (!ks.isEmpty)))) : gNe x (.f (.p (.list []))) Q := r_ne ex rfl ⟨plain_lst (plain_all fun z hz => by
  obtain ⟨u, _, rfl⟩ := List.mem_map.mp hz
  rfl), rfl, Nat.le_trans (depth_lst (n := 1) fun z hz => by
  obtain ⟨u, _, rfl⟩ := List.mem_map.mp hz
  exact depth_int _) (by decide)⟩ (by
  rw [eqv_nil, isE_map]
  exact h)
theorem r_isNN {Q : AV → Prop} {x : AV} {a : Option Nat} (ex : x.any = .p (eN a)) (h : Q (.c (dB a.isNone))) : gIs x (.c dN) Q := r_is (by rw [ex]; exact isN_eN a) h
/-- values that are made of good stances -/
def GoodT (r : List Hold) (b : Body) (y : PyData) : Prop := ∃ l : List (List Int), y = .tuple (l.map eS) ∧ (∀ x ∈ l, x ∈ goodS r b) ∧ l.length ≤ 50000
theorem cut_good (l : List (List Int)) (lo hi : Option Int) : ∃ l' : List (List Int), cutD (l.map eS) lo hi = l'.map eS ∧ (∀ a ∈ l', a ∈ l) ∧ l'.length ≤ l.length := by
  rw [cut_map2]
  refine ⟨_, rfl, fun a h => List.mem_of_mem_drop (List.mem_of_mem_take h), ?_⟩
  rw [List.length_take, List.length_drop]
  omega
theorem for_okD {T : Tgt} {body : DS} {E : EndsD} (S : List SV → Prop) {xs : List PyData} {Γ : List SV} (h0 : S Γ)
    (h : ∀ a ∈ xs, ∀ (Γ : List SV), S Γ → ∃ Γ1, dTgt T a Γ = some Γ1 ∧ ∀ N : List SV → Prop, (∀ Γ', S Γ' → N Γ') → body { nx := N, ct := N, bk := E.nx, rt := E.rt, ex := E.ex } Γ1) (he : ∀ Γ, S Γ → E.nx Γ) : dForL T body E xs Γ := by
  have q := for_ok (enc := id) (as := xs) (T := T) (body := body) (E := E) S h0 (fun a ha Γ hs => by
    obtain ⟨Γ1, h1, h2⟩ := h a ha Γ hs
    exact ⟨Γ1, h1, fun N hN _ => h2 N hN⟩) he
  rw [List.map_id] at q
  exact q
section
variable {r : List Hold} {b : Body} {s : List Int} {l : List (List Int)} {top : Int}
theorem goodT_self (hg : ∀ x ∈ l, x ∈ goodS r b) (hl : l.length ≤ 625) : GoodT r b (.tuple (l.map eS)) := ⟨l, rfl, hg, by omega⟩
theorem goodT_cut (hg : ∀ x ∈ l, x ∈ goodS r b) (hl : l.length ≤ 625) (lo hi : Option Int) : GoodT r b (.tuple (cutD (l.map eS) lo hi)) := by
  obtain ⟨l', e, h1, h2⟩ := cut_good l lo hi
  exact ⟨l', by rw [e], fun x hx => hg x (h1 x hx), by omega⟩
theorem goodT_app (hg : ∀ x ∈ l, x ∈ goodS r b) (hl : l.length ≤ 625) (lo hi : Option Int) : GoodT r b (.tuple (l.map eS ++ cutD (l.map eS) lo hi)) := by
  obtain ⟨l', e, h1, h2⟩ := cut_good l lo hi
  refine ⟨l ++ l', by rw [e, List.map_append], fun x hx => ?_, by rw [List.length_append]; omega⟩
  rcases List.mem_append.mp hx with hx | hx
  · exact hg x hx
  · exact hg x (h1 x hx)
theorem goodT_rep (hg : ∀ x ∈ l, x ∈ goodS r b) (hl : l.length ≤ 625) : GoodT r b (.tuple (List.replicate (2 : Int).toNat (l.map eS)).flatten) := by
  refine ⟨l ++ l, ?_, fun x hx => (List.mem_append.mp hx).elim (hg x) (hg x), by rw [List.length_append]; omega⟩
  show PyData.tuple (l.map eS ++ (l.map eS ++ [])) = _
  rw [List.append_nil, List.map_append]
theorem goodT_one (hs : s ∈ goodS r b) : GoodT r b (.tuple [eS s]) := ⟨[s], rfl, fun x hx => by
  obtain rfl : x = s := by simpa using hx
  exact hs, by simp⟩
theorem goodT_nil : GoodT r b (.tuple []) := ⟨[], rfl, (fun _ h => nomatch h), by decide⟩
theorem cut_len (lo hi : Option Int) : (cutD (l.map eS) lo hi).length ≤ l.length := by
  obtain ⟨l', e, _, h2⟩ := cut_good l lo hi
  rw [e, List.length_map]
  exact h2
/-- a value that is no climb -/
def BadC (r : List Hold) (b : Body) (s : List Int) (top : Int) (z : PyData) : Prop := OkV z ∧ isClimb r b s top z = false
theorem anyWay_bad {xs : List PyData} {x : PyData} (hx : x ∈ xs) (h : goodOne r b x = false) : anyWay r b (.tuple xs) = false := by
  have e : xs.all (goodOne r b) = false := List.all_eq_false.mpr ⟨x, hx, by rw [h]; decide⟩
  show (!xs.isEmpty && (xs.all (goodOne r b) && _)) = false
  rw [e, Bool.false_and, Bool.and_false]
theorem badC_tup {xs : List PyData} {x : PyData} (hx : x ∈ xs) (h : goodOne r b x = false) (ok : OkV (.tuple xs)) : BadC r b s top (.tuple xs) := ⟨ok, by
  show (anyWay r b (.tuple xs) && _) = false
  rw [anyWay_bad hx h]
  rfl⟩
theorem badC_none : BadC r b s top .none := ⟨⟨rfl, Nat.zero_le _, fun xs e => by cases e⟩, rfl⟩
theorem badC_int (i : Int) : BadC r b s top (.int i) := ⟨⟨rfl, Nat.le_trans (depth_int _) (by decide), fun xs e => by cases e⟩, rfl⟩
theorem badC_list (l : List (List Int)) : BadC r b s top (.list (l.map eS)) := ⟨⟨plain_lst (plain_rows _), Nat.le_trans (depth_lst (n := 2) fun z hz => by
  obtain ⟨u, _, rfl⟩ := List.mem_map.mp hz
  exact depth_eS u) (by decide), fun xs e => by cases e⟩, rfl⟩
theorem badC_pair (s' : List Int) : BadC r b s top (.tuple [eS s', .none]) := badC_tup (x := .none) (by simp) rfl ⟨by simp only [PyData.plain, PyData.plainAll, plain_eS]; rfl, Nat.le_trans (depth_tup (n := 2) fun z hz => by
  simp only [List.mem_cons, List.not_mem_nil, or_false] at hz
  rcases hz with rfl | rfl
  · exact depth_eS _
  · exact Nat.zero_le _) (by decide), fun xs e => by cases e; simp⟩
theorem badC_three (h4 : s.length = 4) : BadC r b s top (.tuple [.tuple (cutD (s.map .int) none (some 3))]) := by
  have e : cutD (s.map PyData.int) none (some 3) = (s.take 3).map PyData.int := cut_to PyData.int s 3
  rw [e]
  refine badC_tup (x := .tuple ((s.take 3).map .int)) (by simp) (bad_len (by rw [List.length_map, List.length_take]; omega)) ⟨?_, ?_, fun xs e => by cases e; simp⟩
  · show PyData.plain (.tuple [eS (s.take 3)]) = true
    simp only [PyData.plain, PyData.plainAll, plain_eS]
    rfl
  · exact Nat.le_trans (depth_tup (n := 2) fun z hz => by
      rcases List.mem_cons.mp hz with h | h
      · rw [h]; exact depth_eS (s.take 3)
      · cases h) (by decide)
end
theorem sIx_m2 (n d : Nat) : HT.sIx n d (some (-2)) = n - 2 := by
  show (if (-2 : Int) < 0 then ((-2 : Int) + (n : Int)).toNat else min (-2 : Int).toNat n) = n - 2
  rw [if_pos (by decide)]
  omega
theorem cut_one (l : List (List Int)) : (cutD (l.map eS) (some (-2)) (some (-1))).length ≤ 1 := by
  rw [cut_map2, sIx_m1, sIx_m2, List.length_map, List.length_take]
  omega
end WL

set_option maxHeartbeats 0
namespace WL
open PySem PySem.Spec PyProof.Rows L2
section
variable {P : Program} {w : World} {K : PySem.W.Frag} {mg : Str → Option Value} {base : Heap} {f : Addr} {fd : FuncData} {ec : Str → Addr}
local macro_rules | `(tactic| walk_at "rd0") => `(tactic| (with_reducible repeat (first|refine r_cons ?_|refine q_var ?_|refine r_nil ?_|refine r_op ?_|refine r_con ?_|refine r_valsc ?_|refine r_valsn ?_|refine r_call ?_|refine q_ixT ?_|refine r_gI ?_|refine r_test ?_|refine r_tst ?_|refine q_t ?_|refine q_f ?_|refine r_cb ?_|refine r_seq ?_|refine r_next ?_|refine r_break ?_|refine r_cont ?_|refine r_drop ?_|refine r_ret ?_|refine r_retN ?_|refine r_if ?_|refine r_raise ?_|refine r_set ?_|refine r_valc ?_|refine r_valf ?_|refine r_own ?_|refine r_ownv ?_|refine q_move ?_|refine r_datc ?_|refine r_datf ?_|refine r_for ?_|refine r_forn ?_|refine q_forc ?_|refine q_forE ?_|refine q_forN ?_|refine r_seqI ?_|refine r_seqJ ?_|refine r_seqvcL ?_|refine r_seqvcT ?_|refine r_seqvfL ?_|refine q_seqvE ?_|refine q_seqaL ?_|refine q_seqaT ?_|refine r_range ?_|refine q_rngv ?_|refine r_zip ?_|refine r_unp ?_|refine q_unpv ?_|refine r_par ?_|refine r_parn ?_|refine r_parc ?_|refine r_stc ?_|refine r_stf ?_|refine r_sto ?_|refine q_varo ?_|refine r_and ?_|refine r_or ?_|refine r_not ?_|refine r_yes ?_|refine r_andV ?_|refine r_orV ?_|refine r_notV ?_|refine r_ifE ?_|refine r_chain ?_|refine r_tup ?_|refine r_lst ?_|refine q_few ?_|refine r_datsn ?_|refine r_datsc ?_|refine r_datsf ?_|refine r_callK ?_|refine q_kw ?_|refine r_valsf ?_|refine r_valsa0 ?_|refine r_valsa1 ?_|refine r_addI ?_|refine q_addT ?_|refine q_addL ?_|refine q_mulT ?_|refine q_ixL ?_|refine r_neg1 ?_|refine r_eqI ?_|refine r_neI ?_|refine q_is ?_|refine q_isNot ?_|refine q_lenT ?_|refine q_lenL ?_|refine q_isi ?_|refine r_abs ?_|refine r_max2 ?_|refine r_min2 ?_|refine q_listL ?_|refine q_listT ?_|refine q_tupL ?_|refine q_tupT ?_|refine r_listRg ?_|refine q_lrgv ?_|refine r_count ?_|refine q_cntv ?_|refine r_lset ?_|refine r_sl ?_|refine r_no ?_|refine r_some ?_|refine r_somv ?_|refine q_slwL ?_|refine q_slwT ?_|refine q_lc ?_|refine q_zipT ?_|refine r_ltS ?_|refine r_eqS ?_|refine r_neS ?_|refine r_dict1 ?_|refine q_dict1S ?_|refine q_dict1v ?_|refine r_dput ?_|refine q_dputv ?_|refine r_keys ?_|refine q_keysv ?_|refine q_inD ?_|refine q_retZv ?_|refine q_pop0 ?_|refine r_rev ?_|refine q_revv ?_|dsimp only [List.set_cons_succ, List.set_cons_zero, List.map_cons, List.map_nil, AV.any, setAll, wipeD, eW_none, eW_some, eN_none, eN_some, eO_none, eO_some, eI_none, eI_some])))
local macro_rules | `(tactic| walk_at "rdn") => `(tactic| (with_reducible repeat (first|refine r_cons ?_|refine q_var ?_|refine r_nil ?_|refine r_op ?_|refine r_con ?_|refine r_valsc ?_|refine r_valsn ?_|refine r_call ?_|refine q_ixT ?_|refine r_gI ?_|refine r_test ?_|refine r_tst ?_|refine q_t ?_|refine q_f ?_|refine r_cb ?_|refine r_seq ?_|refine r_next ?_|refine r_break ?_|refine r_cont ?_|refine r_drop ?_|refine r_ret ?_|refine r_retN ?_|refine r_if ?_|refine r_raise ?_|refine r_set ?_|refine r_valc ?_|refine r_valf ?_|refine r_own ?_|refine r_ownv ?_|refine q_move ?_|refine r_datc ?_|refine r_datf ?_|refine r_for ?_|refine r_forn ?_|refine r_seqI ?_|refine r_seqJ ?_|refine r_seqvcL ?_|refine r_seqvcT ?_|refine r_seqvfL ?_|refine q_seqvE ?_|refine q_seqaL ?_|refine q_seqaT ?_|refine r_range ?_|refine q_rngv ?_|refine r_zip ?_|refine r_unp ?_|refine q_unpv ?_|refine r_par ?_|refine r_parn ?_|refine r_parc ?_|refine r_stc ?_|refine r_stf ?_|refine r_sto ?_|refine q_varo ?_|refine r_and ?_|refine r_or ?_|refine r_not ?_|refine r_yes ?_|refine r_andV ?_|refine r_orV ?_|refine r_notV ?_|refine r_ifE ?_|refine r_chain ?_|refine r_tup ?_|refine r_lst ?_|refine q_few ?_|refine r_datsn ?_|refine r_datsc ?_|refine r_datsf ?_|refine r_callK ?_|refine q_kw ?_|refine r_valsf ?_|refine r_valsa0 ?_|refine r_valsa1 ?_|refine r_addI ?_|refine q_addT ?_|refine q_addL ?_|refine q_mulT ?_|refine q_ixL ?_|refine r_neg1 ?_|refine r_eqI ?_|refine r_neI ?_|refine q_is ?_|refine q_isNot ?_|refine q_lenT ?_|refine q_lenL ?_|refine q_isi ?_|refine r_abs ?_|refine r_max2 ?_|refine r_min2 ?_|refine q_listL ?_|refine q_listT ?_|refine q_tupL ?_|refine q_tupT ?_|refine r_listRg ?_|refine q_lrgv ?_|refine r_count ?_|refine q_cntv ?_|refine r_lset ?_|refine r_sl ?_|refine r_no ?_|refine r_some ?_|refine r_somv ?_|refine q_slwL ?_|refine q_slwT ?_|refine q_lc ?_|refine q_zipT ?_|refine r_ltS ?_|refine r_eqS ?_|refine r_neS ?_|refine r_dict1 ?_|refine q_dict1S ?_|refine q_dict1v ?_|refine r_dput ?_|refine q_dputv ?_|refine r_keys ?_|refine q_keysv ?_|refine q_inD ?_|refine q_retZv ?_|refine q_pop0 ?_|refine r_rev ?_|refine q_revv ?_|dsimp only [List.set_cons_succ, List.set_cons_zero, List.map_cons, List.map_nil, AV.any, setAll, wipeD, eW_none, eW_some, eN_none, eN_some, eO_none, eO_some, eI_none, eI_some])))
local macro_rules | `(tactic| walk_at "rdu") => `(tactic| (with_reducible repeat (first|refine q_top ?_|refine q_setB ?_|refine r_cons ?_|refine q_var ?_|refine r_nil ?_|refine r_op ?_|refine r_con ?_|refine r_valsc ?_|refine r_valsn ?_|refine r_call ?_|refine r_gI ?_|refine r_test ?_|refine r_tst ?_|refine q_t ?_|refine q_f ?_|refine r_cb ?_|refine r_seq ?_|refine r_next ?_|refine r_break ?_|refine r_cont ?_|refine r_drop ?_|refine r_ret ?_|refine r_retN ?_|refine r_if ?_|refine r_raise ?_|refine r_set ?_|refine r_valc ?_|refine r_valf ?_|refine r_own ?_|refine r_ownv ?_|refine q_move ?_|refine r_datc ?_|refine r_datf ?_|refine r_for ?_|refine r_forn ?_|refine r_seqI ?_|refine r_seqJ ?_|refine r_seqvcL ?_|refine r_seqvcT ?_|refine r_seqvfL ?_|refine q_seqvE ?_|refine q_seqaL ?_|refine q_seqaT ?_|refine r_range ?_|refine q_rngv ?_|refine r_zip ?_|refine r_unp ?_|refine q_unpv ?_|refine r_par ?_|refine r_parn ?_|refine r_parc ?_|refine r_stc ?_|refine r_stf ?_|refine r_sto ?_|refine q_varo ?_|refine r_and ?_|refine r_or ?_|refine r_not ?_|refine r_yes ?_|refine r_andV ?_|refine r_orV ?_|refine r_notV ?_|refine r_ifE ?_|refine r_chain ?_|refine r_tup ?_|refine r_lst ?_|refine q_few ?_|refine r_datsn ?_|refine r_datsc ?_|refine r_datsf ?_|refine r_callK ?_|refine q_kw ?_|refine r_valsf ?_|refine r_valsa0 ?_|refine r_valsa1 ?_|refine r_enum ?_|refine q_enumv ?_|refine q_ixB ?_|refine r_neR ?_|refine r_eqR ?_|refine r_forF ?_|refine r_forFL ?_|refine r_forFn ?_|refine r_callD1 (by with_unfolding_all rfl) ?_|refine r_callD2 (by with_unfolding_all rfl) ?_|refine r_res ?_|refine q_eRock ?_|refine q_eBody ?_|refine q_eGrip ?_|refine q_eNumber ?_|refine q_ePose ?_|refine q_neW ?_|refine q_neOnes ?_|refine q_eqOnes ?_|refine r_neB ?_|refine r_eqB ?_|refine r_neT ?_|refine r_eqT ?_|refine r_eqT0 ?_|refine r_neT0 ?_|refine r_neN ?_|refine r_neO ?_|refine r_eqB4 ?_|refine r_eqN ?_|refine r_isEN ?_|refine r_isEW ?_|refine r_isEI ?_|refine r_isEO ?_|refine r_inEN ?_|refine r_inEO ?_|refine r_inEW ?_|refine r_inEI ?_|refine q_inS ?_|refine q_xB0 ?_|refine q_xB1 ?_|refine q_xB2 ?_|refine q_xB3 ?_|refine q_xH0 ?_|refine q_xH1 ?_|refine q_xH2 ?_|refine q_xS0 ?_|refine q_xS1 ?_|refine q_xS2 ?_|refine q_xS3 ?_|refine q_xR ?_|refine q_xT0 ?_|refine q_xT1 ?_|refine q_xT2 ?_|refine q_xL0 ?_|refine q_xL1 ?_|refine q_xL2 ?_|refine u_moves ?_|refine u_reachable ?_|refine u_length ?_|refine u_is_way ?_|refine u_parts ?_|refine u_stances ?_|refine u_good ?_|refine u_fewest ?_|refine u_is_climb ?_|refine u_barrier ?_|refine u_is_barrier ?_|refine u_needed ?_|refine u_few ?_|refine u_least ?_|refine u_wider ?_|refine u_alike ?_|refine u_parting ?_|refine u_mirrored ?_|refine u_is_rock ?_|refine u_mirS ?_|refine u_higher ?_|refine r_addI ?_|refine q_addT ?_|refine q_addL ?_|refine q_mulT ?_|refine r_neg1 ?_|refine r_eqI ?_|refine r_neI ?_|refine q_is ?_|refine q_isNot ?_|refine q_lenT ?_|refine q_lenL ?_|refine q_isi ?_|refine r_abs ?_|refine r_max2 ?_|refine r_min2 ?_|refine q_listL ?_|refine q_listT ?_|refine q_tupL ?_|refine q_tupT ?_|refine r_listRg ?_|refine q_lrgv ?_|refine r_count ?_|refine q_cntv ?_|refine r_lset ?_|refine r_sl ?_|refine r_no ?_|refine r_some ?_|refine r_somv ?_|refine q_slwL ?_|refine q_slwT ?_|refine q_lc ?_|refine q_zipT ?_|refine r_ltS ?_|refine r_eqS ?_|refine r_neS ?_|refine r_dict1 ?_|refine q_dict1S ?_|refine q_dict1v ?_|refine r_dput ?_|refine q_dputv ?_|refine r_keys ?_|refine q_keysv ?_|refine q_inD ?_|refine q_retZv ?_|refine q_pop0 ?_|refine r_rev ?_|refine q_revv ?_|dsimp only [List.set_cons_succ, List.set_cons_zero, List.map_cons, List.map_nil, AV.any, setAll, wipeD, eW_none, eW_some, eN_none, eN_some, eO_none, eO_some, eI_none, eI_some])))
local macro_rules | `(tactic| walk_at "rdk") => `(tactic| (with_reducible repeat (first|refine q_top ?_|refine q_setB ?_|refine r_cons ?_|refine q_var ?_|refine r_nil ?_|refine r_op ?_|refine r_con ?_|refine r_valsc ?_|refine r_valsn ?_|refine r_call ?_|refine r_gI ?_|refine r_test ?_|refine r_tst ?_|refine k_t ?_|refine k_f ?_|refine r_cb ?_|refine r_seq ?_|refine r_next ?_|refine r_break ?_|refine r_cont ?_|refine r_drop ?_|refine r_ret ?_|refine r_retN ?_|refine r_if ?_|refine r_raise ?_|refine r_set ?_|refine r_valc ?_|refine r_valf ?_|refine r_own ?_|refine r_ownv ?_|refine q_move ?_|refine r_datc ?_|refine r_datf ?_|refine r_for ?_|refine r_forn ?_|refine q_forc ?_|refine q_forE ?_|refine q_forN ?_|refine r_seqI ?_|refine r_seqJ ?_|refine r_seqvcL ?_|refine r_seqvcT ?_|refine r_seqvfL ?_|refine q_seqvE ?_|refine q_seqaL ?_|refine q_seqaT ?_|refine r_range ?_|refine q_rngv ?_|refine r_zip ?_|refine r_unp ?_|refine q_unpv ?_|refine r_par ?_|refine r_parn ?_|refine r_parc ?_|refine r_stc ?_|refine r_stf ?_|refine r_sto ?_|refine q_varo ?_|refine r_and ?_|refine r_or ?_|refine r_not ?_|refine r_yes ?_|refine r_andV ?_|refine r_orV ?_|refine r_notV ?_|refine r_ifE ?_|refine r_chain ?_|refine r_tup ?_|refine r_lst ?_|refine q_few ?_|refine r_datsn ?_|refine r_datsc ?_|refine r_datsf ?_|refine r_callK ?_|refine q_kw ?_|refine r_valsf ?_|refine r_valsa0 ?_|refine r_valsa1 ?_|refine r_enum ?_|refine q_enumv ?_|refine q_ixB ?_|refine r_neR ?_|refine r_eqR ?_|refine r_forF ?_|refine r_forFL ?_|refine r_forFn ?_|refine r_callD1 (by with_unfolding_all rfl) ?_|refine r_callD2 (by with_unfolding_all rfl) ?_|refine r_res ?_|refine q_eRock ?_|refine q_eBody ?_|refine q_eGrip ?_|refine q_eNumber ?_|refine q_ePose ?_|refine q_neW ?_|refine q_neOnes ?_|refine q_eqOnes ?_|refine r_neB ?_|refine r_eqB ?_|refine r_neT ?_|refine r_eqT ?_|refine r_eqT0 ?_|refine r_neT0 ?_|refine r_neN ?_|refine r_neO ?_|refine r_eqB4 ?_|refine r_eqN ?_|refine r_isEN ?_|refine r_isEW ?_|refine r_isEI ?_|refine r_isEO ?_|refine r_inEN ?_|refine r_inEO ?_|refine r_inEW ?_|refine r_inEI ?_|refine q_inS ?_|refine q_xB0 ?_|refine q_xB1 ?_|refine q_xB2 ?_|refine q_xB3 ?_|refine q_xH0 ?_|refine q_xH1 ?_|refine q_xH2 ?_|refine q_xS0 ?_|refine q_xS1 ?_|refine q_xS2 ?_|refine q_xS3 ?_|refine q_xR ?_|refine q_xT0 ?_|refine q_xT1 ?_|refine q_xT2 ?_|refine q_xL0 ?_|refine q_xL1 ?_|refine q_xL2 ?_|refine u_moves ?_|refine u_reachable ?_|refine u_length ?_|refine u_is_way ?_|refine u_parts ?_|refine u_stances ?_|refine u_good ?_|refine u_fewest ?_|refine u_is_climb ?_|refine u_barrier ?_|refine u_is_barrier ?_|refine u_needed ?_|refine u_few ?_|refine u_least ?_|refine u_wider ?_|refine u_alike ?_|refine u_parting ?_|refine u_mirrored ?_|refine u_is_rock ?_|refine u_mirS ?_|refine u_higher ?_|refine r_addI ?_|refine q_addT ?_|refine q_addL ?_|refine q_mulT ?_|refine r_neg1 ?_|refine r_eqI ?_|refine r_neI ?_|refine q_is ?_|refine q_isNot ?_|refine q_lenT ?_|refine q_lenL ?_|refine q_isi ?_|refine r_abs ?_|refine r_max2 ?_|refine r_min2 ?_|refine q_listL ?_|refine q_listT ?_|refine q_tupL ?_|refine q_tupT ?_|refine r_listRg ?_|refine q_lrgv ?_|refine r_count ?_|refine q_cntv ?_|refine r_lset ?_|refine r_sl ?_|refine r_no ?_|refine r_some ?_|refine r_somv ?_|refine q_slwL ?_|refine q_slwT ?_|refine q_lc ?_|refine q_zipT ?_|refine r_ltS ?_|refine r_eqS ?_|refine r_neS ?_|refine r_dict1 ?_|refine q_dict1S ?_|refine q_dict1v ?_|refine r_dput ?_|refine q_dputv ?_|refine r_keys ?_|refine q_keysv ?_|refine q_inD ?_|refine q_retZv ?_|refine q_pop0 ?_|refine r_rev ?_|refine q_revv ?_|dsimp only [List.set_cons_succ, List.set_cons_zero, List.map_cons, List.map_nil, AV.any, setAll, wipeD, eW_none, eW_some, eN_none, eN_some, eO_none, eO_some, eI_none, eI_some])))
local macro_rules | `(tactic| walk_at "rdv") => `(tactic| (with_reducible repeat (first|refine q_top ?_|refine q_setB ?_|refine r_cons ?_|refine q_var ?_|refine r_nil ?_|refine r_op ?_|refine r_con ?_|refine r_valsc ?_|refine r_valsn ?_|refine r_call ?_|refine r_gI ?_|refine r_test ?_|refine r_tst ?_|refine k_t ?_|refine k_f ?_|refine r_cb ?_|refine r_seq ?_|refine r_next ?_|refine r_break ?_|refine r_cont ?_|refine r_drop ?_|refine r_ret ?_|refine r_retN ?_|refine r_if ?_|refine r_raise ?_|refine r_set ?_|refine r_valc ?_|refine r_valf ?_|refine r_own ?_|refine r_ownv ?_|refine q_move ?_|refine r_datc ?_|refine r_datf ?_|refine r_for ?_|refine r_forn ?_|refine r_seqI ?_|refine r_seqJ ?_|refine r_seqvcL ?_|refine r_seqvcT ?_|refine r_seqvfL ?_|refine q_seqvE ?_|refine q_seqaL ?_|refine q_seqaT ?_|refine r_range ?_|refine q_rngv ?_|refine r_zip ?_|refine r_unp ?_|refine q_unpv ?_|refine r_par ?_|refine r_parn ?_|refine r_parc ?_|refine r_stc ?_|refine r_stf ?_|refine r_sto ?_|refine q_varo ?_|refine r_and ?_|refine r_or ?_|refine r_not ?_|refine r_yes ?_|refine r_andV ?_|refine r_orV ?_|refine r_notV ?_|refine r_ifE ?_|refine r_chain ?_|refine r_tup ?_|refine r_lst ?_|refine q_few ?_|refine r_datsn ?_|refine r_datsc ?_|refine r_datsf ?_|refine r_callK ?_|refine q_kw ?_|refine r_valsf ?_|refine r_valsa0 ?_|refine r_valsa1 ?_|refine r_enum ?_|refine q_enumv ?_|refine q_ixB ?_|refine r_neR ?_|refine r_eqR ?_|refine r_forF ?_|refine r_forFL ?_|refine r_forFn ?_|refine r_callD1 (by with_unfolding_all rfl) ?_|refine r_callD2 (by with_unfolding_all rfl) ?_|refine r_res ?_|refine q_eRock ?_|refine q_eBody ?_|refine q_eGrip ?_|refine q_eNumber ?_|refine q_ePose ?_|refine q_neW ?_|refine q_neOnes ?_|refine q_eqOnes ?_|refine r_neB ?_|refine r_eqB ?_|refine r_neT ?_|refine r_eqT ?_|refine r_eqT0 ?_|refine r_neT0 ?_|refine r_neN ?_|refine r_neO ?_|refine r_eqB4 ?_|refine r_eqN ?_|refine r_isEN ?_|refine r_isEW ?_|refine r_isEI ?_|refine r_isEO ?_|refine r_inEN ?_|refine r_inEO ?_|refine r_inEW ?_|refine r_inEI ?_|refine q_inS ?_|refine q_xB0 ?_|refine q_xB1 ?_|refine q_xB2 ?_|refine q_xB3 ?_|refine q_xH0 ?_|refine q_xH1 ?_|refine q_xH2 ?_|refine q_xS0 ?_|refine q_xS1 ?_|refine q_xS2 ?_|refine q_xS3 ?_|refine q_xR ?_|refine q_xT0 ?_|refine q_xT1 ?_|refine q_xT2 ?_|refine q_xL0 ?_|refine q_xL1 ?_|refine q_xL2 ?_|refine u_moves ?_|refine u_reachable ?_|refine u_length ?_|refine u_is_way ?_|refine u_parts ?_|refine u_stances ?_|refine u_good ?_|refine u_fewest ?_|refine u_is_climb ?_|refine u_barrier ?_|refine u_is_barrier ?_|refine u_needed ?_|refine u_few ?_|refine u_least ?_|refine u_wider ?_|refine u_alike ?_|refine u_parting ?_|refine u_mirrored ?_|refine u_is_rock ?_|refine u_mirS ?_|refine u_higher ?_|refine r_addI ?_|refine q_addT ?_|refine q_addL ?_|refine q_mulT ?_|refine r_neg1 ?_|refine r_eqI ?_|refine r_neI ?_|refine q_is ?_|refine q_isNot ?_|refine q_lenT ?_|refine q_lenL ?_|refine q_isi ?_|refine r_abs ?_|refine r_max2 ?_|refine r_min2 ?_|refine q_listL ?_|refine q_listT ?_|refine q_tupL ?_|refine q_tupT ?_|refine r_listRg ?_|refine q_lrgv ?_|refine r_count ?_|refine q_cntv ?_|refine r_lset ?_|refine r_sl ?_|refine r_no ?_|refine r_some ?_|refine r_somv ?_|refine q_slwL ?_|refine q_slwT ?_|refine q_lc ?_|refine q_zipT ?_|refine r_ltS ?_|refine r_eqS ?_|refine r_neS ?_|refine r_dict1 ?_|refine q_dict1S ?_|refine q_dict1v ?_|refine r_dput ?_|refine q_dputv ?_|refine r_keys ?_|refine q_keysv ?_|refine q_inD ?_|refine q_retZv ?_|refine q_pop0 ?_|refine r_rev ?_|refine q_revv ?_|dsimp only [List.set_cons_succ, List.set_cons_zero, List.map_cons, List.map_nil, AV.any, setAll, wipeD, eW_none, eW_some, eN_none, eN_some, eO_none, eO_some, eI_none, eI_some])))
theorem fv__law_body (F : FnP K "_law_body" S__law_body f fd) (hm : mg "_law_body" = some (.ref f)) (B : Blt mg) (g__law_draw : FnV P w K mg base 1 "_law_draw" ["_law_script", "_law_town", "_law_many"] [] (sp__law_draw K)) : FnV P w K mg base 2 "_law_body" ["_law_script", "_law_town"] [] (sp__law_body K) := by
  refine fnV_mk F (fn_ok F sc__law_body _ (fun tw ds Q E h => by obtain ⟨x, y, rfl, _⟩ := h; rfl) fun cdv A outer s H E tw hr tk po => ⟨_, (vss_cons (vs_set (i := 2) sc__law_body.nd rfl (by first | exact .inl rfl | exact .inr rfl) (ve_addP ve_int (ve_call (g__law_draw.mono (by decide)) hr tk rfl (va_cons (vv 0) (va_cons (vv 1) (va_cons ve_int va_nil))))))
    (vss_cons (vs_set (i := 3) sc__law_body.nd rfl (by first | exact .inl rfl | exact .inr rfl) (ve_addP ve_int (ve_call (g__law_draw.mono (by decide)) hr tk rfl (va_cons (vv 0) (va_cons (vv 1) (va_cons ve_int va_nil))))))
    (vss_cons (vs_set (i := 4) sc__law_body.nd rfl (by first | exact .inl rfl | exact .inr rfl) (ve_addP ve_int (ve_call (g__law_draw.mono (by decide)) hr tk rfl (va_cons (vv 0) (va_cons (vv 1) (va_cons ve_int va_nil))))))
    (vss_one (vs_ret (ve_tup (va_cons (vv 2) (va_cons (vv 3) (va_cons (vv 4) (va_cons (ve_call (g__law_draw.mono (by decide)) hr tk rfl (va_cons (vv 0) (va_cons (vv 1) (va_cons ve_int va_nil)))) va_nil)))))))))), fun ds Qd Ed h => ?_⟩) hm (fun _ _ _ _ _ _ us hl => match us, hl with | [_, _], _ => rfl) (fun n hn => absurd hn (List.not_mem_nil))
  obtain ⟨x, y, rfl, hT, hq⟩ := h
  refine at_start (Γ := [SV.d _, SV.d _, SV.un, SV.un, SV.un]) rfl ?_
  walk_at "rd0"
  refine ⟨x, y, 4, rfl, hT, by decide, by decide, fun a a0 a1 => ?_⟩
  walk_at "rd0"
  refine ⟨x, y, 4, rfl, hT, by decide, by decide, fun b b0 b1 => ?_⟩
  walk_at "rd0"
  refine ⟨x, y, 5, rfl, hT, by decide, by decide, fun c c0 c1 => ?_⟩
  walk_at "rd0"
  refine ⟨x, y, 4, rfl, hT, by decide, by decide, fun d d0 d1 => ?_⟩
  walk_at "rd0"
  exact hq (1 + a, 1 + b, 2 + c, d) (by show 1 ≤ 1 + a; omega) (by show 1 + a ≤ 4; omega) (by show 1 ≤ 1 + b; omega) (by show 1 + b ≤ 4; omega) (by show 2 ≤ 2 + c; omega) (by show 2 + c ≤ 6; omega) d0 (by show d ≤ 3; omega)

theorem fv__law_rock (F : FnP K "_law_rock" S__law_rock f fd) (hm : mg "_law_rock" = some (.ref f)) (B : Blt mg) (g__law_draw : FnV P w K mg base 1 "_law_draw" ["_law_script", "_law_town", "_law_many"] [] (sp__law_draw K)) : FnV P w K mg base 2 "_law_rock" ["_law_script", "_law_town", "_law_most"] [] (sp__law_rock K) := by
  refine fnV_mk F (fn_ok F sc__law_rock _ (fun tw ds Q E h => by obtain ⟨x, y, m, rfl, _⟩ := h; rfl) fun cdv A outer s H E tw hr tk po => ⟨_, (vss_cons (vs_own (i := 3) sc__law_rock.nd rfl (by first | exact .inl rfl | exact .inr rfl) (ve_lst va_nil))
    (vss_cons (vs_for (T := (.one 4)) po rfl (vi_range B rfl (va_cons (ve_addP ve_int (ve_call (g__law_draw.mono (by decide)) hr tk rfl (va_cons (vv 0) (va_cons (vv 1) (va_cons (vv 2) va_nil))))) va_nil)) (vg_one sc__law_rock.nd (i := 4) rfl (by first | exact .inl rfl | exact .inr rfl)) (vss_cons (vs_unp (T := (.many [5, 6])) (ve_tup (va_cons (ve_addP ve_int (ve_call (g__law_draw.mono (by decide)) hr tk rfl (va_cons (vv 0) (va_cons (vv 1) (va_cons ve_int va_nil))))) (va_cons (ve_call (g__law_draw.mono (by decide)) hr tk rfl (va_cons (vv 0) (va_cons (vv 1) (va_cons ve_int va_nil)))) va_nil))) (vg_many (is := [5, 6]) rfl (pgs_cons (pg_name sc__law_rock.nd (i := 5) rfl (by first | exact .inl rfl | exact .inr rfl) (by first | exact .inl rfl | exact .inr rfl)) (pgs_cons (pg_name sc__law_rock.nd (i := 6) rfl (by first | exact .inl rfl | exact .inr rfl) (by first | exact .inl rfl | exact .inr rfl)) pgs_nil))))
    (vss_one (vs_if (vt_eq hr (ve_lc rfl sc__law_rock.nd (own := [("_law_one", 7)]) (T := (.one 7)) (blkOk_by (N := N__law_rock) (sc := defScope S__law_rock) (by decide +kernel)) (by decide) (vj_seq (vv 3)) fun s H C cl fp => ⟨(vg_one sc__law_rock.nd (i := 7) rfl (by first | exact .inl rfl | exact .inr rfl)), (vts_one (vt_eq hr (ve_slice (vv 7) vo_none (vo_some ve_int)) (ve_tup (va_cons (vv 5) (va_cons (vv 6) va_nil))))), (vv 7)⟩) (ve_lst va_nil)) (vss_one (vs_append (i := 3) (pv 3) (ve_tup (va_cons (vv 5) (va_cons (vv 6) (va_cons (ve_addP ve_int (ve_if (vt_gt (ve_call (g__law_draw.mono (by decide)) hr tk rfl (va_cons (vv 0) (va_cons (vv 1) (va_cons ve_int va_nil)))) ve_int) ve_int ve_int)) va_nil)))))) vss_nil))))
    (vss_one (vs_ret (ve_tuple B rfl (va_cons (vv 3) va_nil)))))), fun ds Qd Ed h => ?_⟩) hm (fun _ _ _ _ _ _ us hl => match us, hl with | [_, _, _], _ => rfl) (fun n hn => absurd hn (List.not_mem_nil))
  obtain ⟨x, y, m, rfl, hT, hm1, hm7, hq⟩ := h
  refine at_start (Γ := [SV.d _, SV.d _, SV.d _, SV.un, SV.un, SV.un, SV.un, SV.un]) rfl ?_
  walk_at "rd0"
  refine ⟨x, y, m, rfl, hT, by omega, by omega, fun n n0 n1 => ?_⟩
  walk_at "rd0"
  refine for_inv (enc := fun (i : Nat) => .int (i : Int)) (as := List.range (1 + n).toNat) (i := 0) (fun i Γ => ∃ (r : List Hold) (a b c : Option D), Γ = [.d x, .d y, .d (dI m), .o (.p (.list (r.map eH))), sd a, sd b, sd c, .un] ∧ RockD r ∧ r.length ≤ i ∧ (1 ≤ i → 1 ≤ r.length)) ⟨[], none, none, none, rfl, ⟨(fun _ h => nomatch h), List.nodup_nil⟩, Nat.le_refl _, fun h => absurd h (by decide)⟩ (fun j k Γ hk hI => ?_) fun Γ hI => ?_
  · obtain ⟨r, a, b, c, rfl, hR, hl, hl1⟩ := hI
    have hj : j < 7 := by
      by_cases q : j < (1 + n).toNat
      · omega
      · rw [List.getElem?_eq_none (by rw [List.length_range]; exact Nat.le_of_not_lt q)] at hk
        cases hk
    refine ⟨_, rfl, fun N hN => ?_⟩
    walk_at "rd0"
    refine ⟨x, y, 5, rfl, hT, by decide, by decide, fun p p0 p1 => ?_⟩
    walk_at "rd0"
    refine ⟨x, y, 7, rfl, hT, by decide, by decide, fun q q0 q1 => ?_⟩
    walk_at "rd0"
    refine lc_filter0 (p := fun h : Hold => decide (h.1 = 8 + p) && decide (h.2.1 = q)) (f := eH) (enc := eH) (as := r) (fun h hh => ⟨_, rfl, fun Q hQ => ?_, fun _ R hR => ?_⟩) (by omega) ?_
    · walk_at "rd0"
      refine r_eq (p := .tuple [.int h.1, .int h.2.1]) (q := .tuple [.int (8 + p), .int q]) rfl rfl ⟨rfl, rfl, depth_2 _ _⟩ ?_
      rw [eqv_2]
      walk_at "rd0"
      exact hQ
    · walk_at "rd0"
      exact hR
    · walk_at "rd0"
      refine r_eq rfl rfl ⟨plain_lst (plain_all fun z hz => ?_), rfl, Nat.le_trans (depth_lst (n := 2) fun z hz => ?_) (by decide)⟩ ?_
      · obtain ⟨u, _, rfl⟩ := List.mem_map.mp hz
        exact plain_eH u
      · obtain ⟨u, _, rfl⟩ := List.mem_map.mp hz
        exact depth_eH u
      rw [eqv_nil]
      walk_at "rd0"
      cases e : ((r.filter fun h => decide (h.1 = 8 + p) && decide (h.2.1 = q)).map eH).isEmpty with
      | false =>
        walk_at "rd0"
        refine hN _ ⟨r, some (.p (.int (k : Int))), some (dI (8 + p)), some (dI q), rfl, hR, by omega, fun _ => ?_⟩
        cases r with
        | nil => cases e
        | cons u v => exact Nat.succ_le_succ (Nat.zero_le _)
      | true =>
        have fresh := found_iff e
        walk_at "rd0"
        refine r_app rfl (by rw [List.length_map]; omega) ?_
        walk_at "rd0"
        refine ⟨x, y, 3, rfl, hT, by decide, by decide, fun t t0 t1 => ?_⟩
        walk_at "rd0"
        have fin : ∀ z : Int, 1 ≤ z → z ≤ 2 → N [.d x, .d y, .d (dI m), .o (.p (.list (r.map eH ++ [eH (8 + p, q, z)]))), .d (.p (.int (k : Int))), .d (dI (8 + p)), .d (dI q), .un] := fun z z1 z2 => by
          rw [eR_snoc]
          refine hN _ ⟨r ++ [(8 + p, q, z)], some (.p (.int (k : Int))), some (dI (8 + p)), some (dI q), rfl, ⟨fun h hh => ?_, ?_⟩, by rw [List.length_append, List.length_singleton]; omega, fun _ => by rw [List.length_append, List.length_singleton]; omega⟩
          · rcases List.mem_append.mp hh with hh | hh
            · exact hR.1 h hh
            · have e2 : h = (8 + p, q, z) := by simpa using hh
              rw [e2]
              refine ⟨⟨?_, ?_⟩, ⟨?_, ?_⟩, z1, z2⟩
              · show 8 ≤ 8 + p; omega
              · show 8 + p ≤ 12; omega
              · show 0 ≤ q; omega
              · show q ≤ 6; omega
          · rw [List.map_append]
            refine List.nodup_append.mpr ⟨hR.2, by simp, fun u hu v hv e2 => ?_⟩
            have hv : v = [8 + p, q] := by simpa using hv
            rw [e2, hv] at hu
            exact fresh hu
        cases e3 : decide (0 < t) with
        | true =>
          walk_at "rd0"
          exact fin 2 (by decide) (by decide)
        | false =>
          walk_at "rd0"
          exact fin 1 (by decide) (by decide)
  · obtain ⟨r, a, b, c, rfl, hR, hl, hl1⟩ := hI
    rw [List.length_range] at hl hl1
    walk_at "rd0"
    exact hq r hR (hl1 (by omega)) (by omega)

theorem fv__law_kept (F : FnP K "_law_kept" S__law_kept f fd) (hm : mg "_law_kept" = some (.ref f)) (B : Blt mg)  : FnV P w K mg base 1 "_law_kept" ["_law_holds", "_law_parts", "_law_pose"] [] (sp__law_kept) := by
  refine fnV_mk F (fn_ok F sc__law_kept _ (fun tw ds Q E h => by obtain ⟨r, b, i, j, k, l, rfl, _⟩ := h; rfl) fun cdv A outer s H E tw hr tk po => ⟨_, (vss_cons (vs_for (T := (.one 3)) po rfl (vi_seq (vv 2)) (vg_one sc__law_kept.nd (i := 3) rfl (by first | exact .inl rfl | exact .inr rfl)) (vss_one (vs_if (vt_gt (ve_len B rfl (va_cons (ve_lc rfl sc__law_kept.nd (own := [("_law_other", 4)]) (T := (.one 4)) (blkOk_by (N := N__law_kept) (sc := defScope S__law_kept) (by decide +kernel)) (by decide) (vj_seq (vv 2)) fun s H C cl fp => ⟨(vg_one sc__law_kept.nd (i := 4) rfl (by first | exact .inl rfl | exact .inr rfl)), (vts_one (vt_eq hr (vv 4) (vv 3))), (vv 4)⟩) va_nil)) (ve_ix (ve_ix (vv 0) (vv 3)) ve_int)) (vss_one (vs_ret ve_bl)) vss_nil)))
    (vss_cons (vs_for (T := (.many [5, 4])) po rfl (vi_seq (ve_tup (va_cons (ve_tup (va_cons ve_int (va_cons ve_int va_nil))) (va_cons (ve_tup (va_cons ve_int (va_cons ve_int va_nil))) (va_cons (ve_tup (va_cons ve_int (va_cons ve_int va_nil))) (va_cons (ve_tup (va_cons ve_int (va_cons ve_int va_nil))) (va_cons (ve_tup (va_cons ve_int (va_cons ve_int va_nil))) (va_cons (ve_tup (va_cons ve_int (va_cons ve_int va_nil))) va_nil)))))))) (vg_many (is := [5, 4]) rfl (pgs_cons (pg_name sc__law_kept.nd (i := 5) rfl (by first | exact .inl rfl | exact .inr rfl) (by first | exact .inl rfl | exact .inr rfl)) (pgs_cons (pg_name sc__law_kept.nd (i := 4) rfl (by first | exact .inl rfl | exact .inr rfl) (by first | exact .inl rfl | exact .inr rfl)) pgs_nil))) (vss_cons (vs_par2 (i := 6) (j := 7) false false rfl sc__law_kept.nd rfl rfl (by decide) rfl rfl (vp_cons (ve_ix (vv 0) (ve_ix (vv 2) (vv 5))) (vp_cons (ve_ix (vv 0) (ve_ix (vv 2) (vv 4))) vp_nil)) rfl)
    (vss_cons (vs_set (i := 8) sc__law_kept.nd rfl (by first | exact .inl rfl | exact .inr rfl) (ve_if (vt_eq hr (vv 4) ve_int) (ve_ix (vv 1) ve_int) (ve_if (vt_eq hr (vv 5) ve_int) (ve_ix (vv 1) ve_int) (ve_ix (vv 1) ve_int))))
    (vss_one (vs_for (T := (.one 9)) po rfl (vi_seq (ve_tup (va_cons ve_int (va_cons ve_int va_nil)))) (vg_one sc__law_kept.nd (i := 9) rfl (by first | exact .inl rfl | exact .inr rfl)) (vss_one (vs_if (PW.pt (vw_or (vt_gt (ve_sub (ve_ix (vv 6) (vv 9)) (ve_ix (vv 7) (vv 9))) (vv 8)) (vw_or1 (vt_gt (ve_sub (ve_ix (vv 7) (vv 9)) (ve_ix (vv 6) (vv 9))) (vv 8))))) (vss_one (vs_ret ve_bl)) vss_nil)))))))
    (vss_cons (vs_for (T := (.one 10)) po rfl (vi_seq (ve_tup (va_cons ve_int (va_cons ve_int va_nil)))) (vg_one sc__law_kept.nd (i := 10) rfl (by first | exact .inl rfl | exact .inr rfl)) (vss_one (vs_if (PW.pt (vw_or (vt_gt (ve_ix (ve_ix (vv 0) (ve_ix (vv 2) (vv 10))) ve_int) (ve_ix (ve_ix (vv 0) (ve_ix (vv 2) ve_int)) ve_int)) (vw_or1 (vt_gt (ve_ix (ve_ix (vv 0) (ve_ix (vv 2) (vv 10))) ve_int) (ve_ix (ve_ix (vv 0) (ve_ix (vv 2) ve_int)) ve_int))))) (vss_one (vs_ret ve_bl)) vss_nil)))
    (vss_cons (vs_for (T := (.one 11)) po rfl (vi_seq (ve_tup (va_cons ve_int (va_cons ve_int va_nil)))) (vg_one sc__law_kept.nd (i := 11) rfl (by first | exact .inl rfl | exact .inr rfl)) (vss_one (vs_if (vt_gt (ve_ix (ve_ix (vv 0) (ve_ix (vv 2) (vv 11))) ve_int) (ve_addP (ve_ix (ve_ix (vv 0) (ve_ix (vv 2) (ve_addP (vv 11) ve_int))) ve_int) (ve_ix (vv 1) ve_int))) (vss_one (vs_ret ve_bl)) vss_nil)))
    (vss_one (vs_ret ve_bl)))))), fun ds Qd Ed h => ?_⟩) hm (fun _ _ _ _ _ _ us hl => match us, hl with | [_, _, _], _ => rfl) (fun n hn => absurd hn (List.not_mem_nil))
  obtain ⟨r, b, i, j, k, l, rfl, hi, hj, hk, hl, hq⟩ := h
  rw [← lkept_eq, lkept_any] at hq
  refine at_start (Γ := [SV.d _, SV.d _, SV.d _, SV.un, SV.un, SV.un, SV.un, SV.un, SV.un, SV.un, SV.un, SV.un]) rfl ?_
  walk_at "rdv"
  refine for_find (enc := PyData.int) (as := [i, j, k, l]) (fun Γ => ∃ a3 : Option D, Γ = [.d (.p (eR r)), .d (.p (eB b)), .d (.p (eS [i, j, k, l])), sd a3, .un, .un, .un, .un, .un, .un, .un, .un]) (fullB r [i, j, k, l]) (fun _ => dB false) ⟨none, rfl⟩ (fun a ha Γ hS => ?_) (fun a hf => ?_) (fun hf Γ hS => ?_)
  · obtain ⟨a3, rfl⟩ := hS
    have hir : InR r a := by
      simp only [List.mem_cons, List.not_mem_nil, or_false] at ha
      rcases ha with rfl | rfl | rfl | rfl <;> assumption
    refine ⟨_, rfl, fun N hN hR => ?_⟩
    walk_at "rdv"
    refine lc_filter0 (enc := PyData.int) (as := [i, j, k, l]) (p := fun z => decide (z = a)) (f := PyData.int) (fun z hz => ⟨_, rfl, fun Q hQ => ?_, fun _ R hR => ?_⟩) (by show 4 ≤ 100000; decide) ?_
    · walk_at "rdv"
      exact hQ
    · walk_at "rdv"
      exact hR
    walk_at "rdv"
    rw [List.length_map]
    cases e : fullB r [i, j, k, l] a with
    | true =>
      refine r_t e ?_
      walk_at "rdv"
      exact hR e
    | false =>
      refine r_f e ?_
      walk_at "rdv"
      exact hN e _ ⟨some _, rfl⟩
  · rw [any_find hf] at hq
    exact hq
  obtain ⟨a3, rfl⟩ := hS
  rw [any_none hf, Bool.not_false, Bool.true_and] at hq
  walk_at "rdv"
  refine for_find (enc := fun p : Int × Int => .tuple [.int p.1, .int p.2]) (as := pairs6) (fun Γ => ∃ a4 a5 a6 a7 a8 a9 : Option D, Γ = [.d (.p (eR r)), .d (.p (eB b)), .d (.p (eS [i, j, k, l])), sd a3, sd a4, sd a5, sd a6, sd a7, sd a8, sd a9, .un, .un]) (farOf r b i j k l) (fun _ => dB false) ⟨none, none, none, none, none, none, rfl⟩ (fun a ha Γ hS => ?_) (fun a hf => ?_) (fun hf Γ hS => ?_)
  · obtain ⟨a4, a5, a6, a7, a8, a9, rfl⟩ := hS
    refine ⟨_, rfl, fun N hN hR => ?_⟩
    unfold pairs6 at ha
    simp only [List.mem_cons, List.not_mem_nil, or_false] at ha
    rcases ha with rfl | rfl | rfl | rfl | rfl | rfl
    · have hR : farP r (b.1) i j = true → Qd (dB false) := hR
      have hN : farP r (b.1) i j = false → _ := hN
      walk_at "rdk"
      cases e0 : decide (b.1 < (hd r i).1 - (hd r j).1) with
      | true =>
        walk_at "rdk"
        exact hR (by unfold farP far2; rw [e0]; simp)
      | false =>
      walk_at "rdk"
      cases e1 : decide (b.1 < (hd r j).1 - (hd r i).1) with
      | true =>
        walk_at "rdk"
        exact hR (by unfold farP far2; rw [e1]; simp)
      | false =>
      walk_at "rdk"
      cases e2 : decide (b.1 < (hd r i).2.1 - (hd r j).2.1) with
      | true =>
        walk_at "rdk"
        exact hR (by unfold farP far2; rw [e2]; simp)
      | false =>
      walk_at "rdk"
      cases e3 : decide (b.1 < (hd r j).2.1 - (hd r i).2.1) with
      | true =>
        walk_at "rdk"
        exact hR (by unfold farP far2; rw [e3]; simp)
      | false =>
      walk_at "rdk"
      exact hN (by unfold farP far2; rw [e0, e1, e2, e3]; rfl) _ ⟨some _, some _, some _, some _, some _, some _, rfl⟩
    · have hR : farP r (b.2.1) k l = true → Qd (dB false) := hR
      have hN : farP r (b.2.1) k l = false → _ := hN
      walk_at "rdk"
      cases e0 : decide (b.2.1 < (hd r k).1 - (hd r l).1) with
      | true =>
        walk_at "rdk"
        exact hR (by unfold farP far2; rw [e0]; simp)
      | false =>
      walk_at "rdk"
      cases e1 : decide (b.2.1 < (hd r l).1 - (hd r k).1) with
      | true =>
        walk_at "rdk"
        exact hR (by unfold farP far2; rw [e1]; simp)
      | false =>
      walk_at "rdk"
      cases e2 : decide (b.2.1 < (hd r k).2.1 - (hd r l).2.1) with
      | true =>
        walk_at "rdk"
        exact hR (by unfold farP far2; rw [e2]; simp)
      | false =>
      walk_at "rdk"
      cases e3 : decide (b.2.1 < (hd r l).2.1 - (hd r k).2.1) with
      | true =>
        walk_at "rdk"
        exact hR (by unfold farP far2; rw [e3]; simp)
      | false =>
      walk_at "rdk"
      exact hN (by unfold farP far2; rw [e0, e1, e2, e3]; rfl) _ ⟨some _, some _, some _, some _, some _, some _, rfl⟩
    · have hR : farP r (b.2.2.1) i k = true → Qd (dB false) := hR
      have hN : farP r (b.2.2.1) i k = false → _ := hN
      walk_at "rdk"
      cases e0 : decide (b.2.2.1 < (hd r i).1 - (hd r k).1) with
      | true =>
        walk_at "rdk"
        exact hR (by unfold farP far2; rw [e0]; simp)
      | false =>
      walk_at "rdk"
      cases e1 : decide (b.2.2.1 < (hd r k).1 - (hd r i).1) with
      | true =>
        walk_at "rdk"
        exact hR (by unfold farP far2; rw [e1]; simp)
      | false =>
      walk_at "rdk"
      cases e2 : decide (b.2.2.1 < (hd r i).2.1 - (hd r k).2.1) with
      | true =>
        walk_at "rdk"
        exact hR (by unfold farP far2; rw [e2]; simp)
      | false =>
      walk_at "rdk"
      cases e3 : decide (b.2.2.1 < (hd r k).2.1 - (hd r i).2.1) with
      | true =>
        walk_at "rdk"
        exact hR (by unfold farP far2; rw [e3]; simp)
      | false =>
      walk_at "rdk"
      exact hN (by unfold farP far2; rw [e0, e1, e2, e3]; rfl) _ ⟨some _, some _, some _, some _, some _, some _, rfl⟩
    · have hR : farP r (b.2.2.1) i l = true → Qd (dB false) := hR
      have hN : farP r (b.2.2.1) i l = false → _ := hN
      walk_at "rdk"
      cases e0 : decide (b.2.2.1 < (hd r i).1 - (hd r l).1) with
      | true =>
        walk_at "rdk"
        exact hR (by unfold farP far2; rw [e0]; simp)
      | false =>
      walk_at "rdk"
      cases e1 : decide (b.2.2.1 < (hd r l).1 - (hd r i).1) with
      | true =>
        walk_at "rdk"
        exact hR (by unfold farP far2; rw [e1]; simp)
      | false =>
      walk_at "rdk"
      cases e2 : decide (b.2.2.1 < (hd r i).2.1 - (hd r l).2.1) with
      | true =>
        walk_at "rdk"
        exact hR (by unfold farP far2; rw [e2]; simp)
      | false =>
      walk_at "rdk"
      cases e3 : decide (b.2.2.1 < (hd r l).2.1 - (hd r i).2.1) with
      | true =>
        walk_at "rdk"
        exact hR (by unfold farP far2; rw [e3]; simp)
      | false =>
      walk_at "rdk"
      exact hN (by unfold farP far2; rw [e0, e1, e2, e3]; rfl) _ ⟨some _, some _, some _, some _, some _, some _, rfl⟩
    · have hR : farP r (b.2.2.1) j k = true → Qd (dB false) := hR
      have hN : farP r (b.2.2.1) j k = false → _ := hN
      walk_at "rdk"
      cases e0 : decide (b.2.2.1 < (hd r j).1 - (hd r k).1) with
      | true =>
        walk_at "rdk"
        exact hR (by unfold farP far2; rw [e0]; simp)
      | false =>
      walk_at "rdk"
      cases e1 : decide (b.2.2.1 < (hd r k).1 - (hd r j).1) with
      | true =>
        walk_at "rdk"
        exact hR (by unfold farP far2; rw [e1]; simp)
      | false =>
      walk_at "rdk"
      cases e2 : decide (b.2.2.1 < (hd r j).2.1 - (hd r k).2.1) with
      | true =>
        walk_at "rdk"
        exact hR (by unfold farP far2; rw [e2]; simp)
      | false =>
      walk_at "rdk"
      cases e3 : decide (b.2.2.1 < (hd r k).2.1 - (hd r j).2.1) with
      | true =>
        walk_at "rdk"
        exact hR (by unfold farP far2; rw [e3]; simp)
      | false =>
      walk_at "rdk"
      exact hN (by unfold farP far2; rw [e0, e1, e2, e3]; rfl) _ ⟨some _, some _, some _, some _, some _, some _, rfl⟩
    · have hR : farP r (b.2.2.1) j l = true → Qd (dB false) := hR
      have hN : farP r (b.2.2.1) j l = false → _ := hN
      walk_at "rdk"
      cases e0 : decide (b.2.2.1 < (hd r j).1 - (hd r l).1) with
      | true =>
        walk_at "rdk"
        exact hR (by unfold farP far2; rw [e0]; simp)
      | false =>
      walk_at "rdk"
      cases e1 : decide (b.2.2.1 < (hd r l).1 - (hd r j).1) with
      | true =>
        walk_at "rdk"
        exact hR (by unfold farP far2; rw [e1]; simp)
      | false =>
      walk_at "rdk"
      cases e2 : decide (b.2.2.1 < (hd r j).2.1 - (hd r l).2.1) with
      | true =>
        walk_at "rdk"
        exact hR (by unfold farP far2; rw [e2]; simp)
      | false =>
      walk_at "rdk"
      cases e3 : decide (b.2.2.1 < (hd r l).2.1 - (hd r j).2.1) with
      | true =>
        walk_at "rdk"
        exact hR (by unfold farP far2; rw [e3]; simp)
      | false =>
      walk_at "rdk"
      exact hN (by unfold farP far2; rw [e0, e1, e2, e3]; rfl) _ ⟨some _, some _, some _, some _, some _, some _, rfl⟩
  · rw [any_find hf] at hq
    exact hq
  obtain ⟨a4, a5, a6, a7, a8, a9, rfl⟩ := hS
  rw [any_none hf, Bool.not_false, Bool.true_and] at hq
  walk_at "rdv"
  refine for_find (enc := PyData.int) (as := [2, 3]) (fun Γ => ∃ a10 : Option D, Γ = [.d (.p (eR r)), .d (.p (eB b)), .d (.p (eS [i, j, k, l])), sd a3, sd a4, sd a5, sd a6, sd a7, sd a8, sd a9, sd a10, .un]) (lowOf r i j k l) (fun _ => dB false) ⟨none, rfl⟩ (fun a ha Γ hS => ?_) (fun a hf => ?_) (fun hf Γ hS => ?_)
  · obtain ⟨a10, rfl⟩ := hS
    refine ⟨_, rfl, fun N hN hR => ?_⟩
    simp only [List.mem_cons, List.not_mem_nil, or_false] at ha
    rcases ha with rfl | rfl
    · have hR : lowB r k i j = true → Qd (dB false) := hR
      have hN : lowB r k i j = false → _ := hN
      walk_at "rdk"
      cases e0 : decide ((hd r i).2.1 < (hd r k).2.1) with
      | true =>
        walk_at "rdk"
        exact hR (by unfold lowB; rw [e0]; rfl)
      | false =>
      walk_at "rdk"
      cases e1 : decide ((hd r j).2.1 < (hd r k).2.1) with
      | true =>
        walk_at "rdk"
        exact hR (by unfold lowB; rw [e1]; simp)
      | false =>
      walk_at "rdk"
      exact hN (by unfold lowB; rw [e0, e1]; rfl) _ ⟨some _, rfl⟩
    · have hR : lowB r l i j = true → Qd (dB false) := hR
      have hN : lowB r l i j = false → _ := hN
      walk_at "rdk"
      cases e0 : decide ((hd r i).2.1 < (hd r l).2.1) with
      | true =>
        walk_at "rdk"
        exact hR (by unfold lowB; rw [e0]; rfl)
      | false =>
      walk_at "rdk"
      cases e1 : decide ((hd r j).2.1 < (hd r l).2.1) with
      | true =>
        walk_at "rdk"
        exact hR (by unfold lowB; rw [e1]; simp)
      | false =>
      walk_at "rdk"
      exact hN (by unfold lowB; rw [e0, e1]; rfl) _ ⟨some _, rfl⟩
  · rw [any_find hf] at hq
    exact hq
  obtain ⟨a10, rfl⟩ := hS
  rw [any_none hf, Bool.not_false, Bool.true_and] at hq
  walk_at "rdv"
  refine for_find (enc := PyData.int) (as := [0, 2]) (fun Γ => ∃ a11 : Option D, Γ = [.d (.p (eR r)), .d (.p (eB b)), .d (.p (eS [i, j, k, l])), sd a3, sd a4, sd a5, sd a6, sd a7, sd a8, sd a9, sd a10, sd a11]) (crossOf r b i j k l) (fun _ => dB false) ⟨none, rfl⟩ (fun a ha Γ hS => ?_) (fun a hf => ?_) (fun hf Γ hS => ?_)
  · obtain ⟨a11, rfl⟩ := hS
    refine ⟨_, rfl, fun N hN hR => ?_⟩
    simp only [List.mem_cons, List.not_mem_nil, or_false] at ha
    rcases ha with rfl | rfl
    · have hR : crossB r i j b.2.2.2 = true → Qd (dB false) := hR
      have hN : crossB r i j b.2.2.2 = false → _ := hN
      walk_at "rdk"
      rw [show ((0 : Int) + 1) = 1 from rfl]
      walk_at "rdk"
      cases e0 : decide ((hd r j).1 + b.2.2.2 < (hd r i).1) with
      | true =>
        walk_at "rdk"
        exact hR e0
      | false =>
      walk_at "rdk"
      exact hN e0 _ ⟨some _, rfl⟩
    · have hR : crossB r k l b.2.2.2 = true → Qd (dB false) := hR
      have hN : crossB r k l b.2.2.2 = false → _ := hN
      walk_at "rdk"
      rw [show ((2 : Int) + 1) = 3 from rfl]
      walk_at "rdk"
      cases e0 : decide ((hd r l).1 + b.2.2.2 < (hd r k).1) with
      | true =>
        walk_at "rdk"
        exact hR e0
      | false =>
      walk_at "rdk"
      exact hN e0 _ ⟨some _, rfl⟩
  · rw [any_find hf] at hq
    exact hq
  obtain ⟨a11, rfl⟩ := hS
  rw [any_none hf] at hq
  walk_at "rdv"
  exact hq

theorem fv__law_all (F : FnP K "_law_all" S__law_all f fd) (hm : mg "_law_all" = some (.ref f)) (B : Blt mg) (g__law_kept : FnV P w K mg base 1 "_law_kept" ["_law_holds", "_law_parts", "_law_pose"] [] (sp__law_kept)) : FnV P w K mg base 2 "_law_all" ["_law_holds", "_law_parts"] [] (sp__law_all) := by
  refine fnV_mk F (fn_ok F sc__law_all _ (fun tw ds Q E h => by obtain ⟨r, b, rfl, _⟩ := h; rfl) fun cdv A outer s H E tw hr tk po => ⟨_, (vss_cons (vs_par2 (i := 2) (j := 3) true false rfl sc__law_all.nd rfl rfl (by decide) rfl rfl (vp_cons (ve_lst va_nil) (vp_cons (ve_listRg B rfl rfl rfl (ve_len B rfl (va_cons (vv 0) va_nil))) vp_nil)) rfl)
    (vss_cons (vs_for (T := (.one 4)) po rfl (vi_seq (vv 3)) (vg_one sc__law_all.nd (i := 4) rfl (by first | exact .inl rfl | exact .inr rfl)) (vss_one (vs_for (T := (.one 5)) po rfl (vi_seq (vv 3)) (vg_one sc__law_all.nd (i := 5) rfl (by first | exact .inl rfl | exact .inr rfl)) (vss_one (vs_for (T := (.one 6)) po rfl (vi_seq (vv 3)) (vg_one sc__law_all.nd (i := 6) rfl (by first | exact .inl rfl | exact .inr rfl)) (vss_one (vs_for (T := (.one 7)) po rfl (vi_seq (vv 3)) (vg_one sc__law_all.nd (i := 7) rfl (by first | exact .inl rfl | exact .inr rfl)) (vss_one (vs_if (vt_val (ve_call (g__law_kept.mono (by decide)) hr tk rfl (va_cons (vv 0) (va_cons (vv 1) (va_cons (ve_tup (va_cons (vv 4) (va_cons (vv 5) (va_cons (vv 6) (va_cons (vv 7) va_nil))))) va_nil))))) (vss_one (vs_append (i := 2) (pv 2) (ve_tup (va_cons (vv 4) (va_cons (vv 5) (va_cons (vv 6) (va_cons (vv 7) va_nil))))))) vss_nil)))))))))
    (vss_one (vs_ret (vv 2))))), fun ds Qd Ed h => ?_⟩) hm (fun _ _ _ _ _ _ us hl => match us, hl with | [_, _], _ => rfl) (fun n hn => absurd hn (List.not_mem_nil))
  obtain ⟨r, b, rfl, hl, hq⟩ := h
  refine at_start (Γ := [SV.d _, SV.d _, SV.un, SV.un, SV.un, SV.un, SV.un, SV.un]) rfl ?_
  walk_at "rd0"
  refine r_lrgv (by omega) (by rw [List.length_map]; omega) ?_
  rw [rgD_len, List.length_map]
  walk_at "rd0"
  have inR : ∀ i ∈ List.range r.length, InR r (i : Int) := fun i hi => ⟨by omega, by have := List.mem_range.mp hi; omega⟩
  have tot : ((List.range r.length).flatMap (g1 r b)).length ≤ 2401 := by
    have := flat_le (l := List.range r.length) fun l _ => g1_le b hl l
    rw [List.length_range] at this
    omega
  refine for_acc (S := fun acc Γ => ∃ a c d e : Option D, Γ = [.d (.p (eR r)), .d (.p (eB b)), .o (.p (.list acc)), .d (.p (.list ((List.range r.length).map fun (i : Nat) => PyData.int i))), sd a, sd c, sd d, sd e]) (enc := fun (i : Nat) => PyData.int i) (g := g1 r b) (as := List.range r.length) (acc := []) ⟨none, none, none, none, rfl⟩ (by rw [List.nil_append]; omega) (fun i hi acc Γ hS hn => ?_) fun Γ hS => ?_
  · obtain ⟨a, c, d, e, rfl⟩ := hS
    refine ⟨_, rfl, fun N hN => ?_⟩
    walk_at "rd0"
    refine for_acc (S := fun acc Γ => ∃ c d e : Option D, Γ = [.d (.p (eR r)), .d (.p (eB b)), .o (.p (.list acc)), .d (.p (.list ((List.range r.length).map fun (i : Nat) => PyData.int i))), .d (dI i), sd c, sd d, sd e]) (enc := fun (i : Nat) => PyData.int i) (g := g2 r b i) (as := List.range r.length) (acc := acc) ⟨c, d, e, rfl⟩ hn (fun j hj acc Γ hS hn => ?_) fun Γ hS => ?_
    · obtain ⟨c, d, e, rfl⟩ := hS
      refine ⟨_, rfl, fun N hN => ?_⟩
      walk_at "rd0"
      refine for_acc (S := fun acc Γ => ∃ d e : Option D, Γ = [.d (.p (eR r)), .d (.p (eB b)), .o (.p (.list acc)), .d (.p (.list ((List.range r.length).map fun (i : Nat) => PyData.int i))), .d (dI i), .d (dI j), sd d, sd e]) (enc := fun (i : Nat) => PyData.int i) (g := g3 r b i j) (as := List.range r.length) (acc := acc) ⟨d, e, rfl⟩ hn (fun k hk acc Γ hS hn => ?_) fun Γ hS => ?_
      · obtain ⟨d, e, rfl⟩ := hS
        refine ⟨_, rfl, fun N hN => ?_⟩
        walk_at "rd0"
        refine for_acc (S := fun acc Γ => ∃ e : Option D, Γ = [.d (.p (eR r)), .d (.p (eB b)), .o (.p (.list acc)), .d (.p (.list ((List.range r.length).map fun (i : Nat) => PyData.int i))), .d (dI i), .d (dI j), .d (dI k), sd e]) (enc := fun (i : Nat) => PyData.int i) (g := gK r b i j k) (as := List.range r.length) (acc := acc) ⟨e, rfl⟩ hn (fun l hl2 acc Γ hS hn => ?_) fun Γ hS => ?_
        · obtain ⟨e, rfl⟩ := hS
          refine ⟨_, rfl, fun N hN => ?_⟩
          walk_at "rd0"
          refine ⟨r, b, i, j, k, l, rfl, inR i hi, inR j hj, inR k hk, inR l hl2, ?_⟩
          walk_at "rd0"
          cases e1 : kept r b i j k l with
          | true =>
            have e2 : gK r b i j k l = [eS [(i : Int), j, k, l]] := by unfold gK; rw [if_pos e1]
            rw [e2] at hN hn
            rw [List.length_append, List.length_singleton] at hn
            walk_at "rd0"
            refine r_app rfl (by omega) ?_
            walk_at "rd0"
            exact hN _ ⟨some (dI l), rfl⟩
          | false =>
            have e2 : gK r b i j k l = [] := by unfold gK; rw [if_neg (by rw [e1]; decide)]
            rw [e2, List.append_nil] at hN
            walk_at "rd0"
            exact hN _ ⟨some (dI l), rfl⟩
        · obtain ⟨e, rfl⟩ := hS
          exact hN _ ⟨some (dI k), e, rfl⟩
      · obtain ⟨d, e, rfl⟩ := hS
        exact hN _ ⟨some (dI j), d, e, rfl⟩
    · obtain ⟨c, d, e, rfl⟩ := hS
      exact hN _ ⟨some (dI i), c, d, e, rfl⟩
  · obtain ⟨a, c, d, e, rfl⟩ := hS
    rw [List.nil_append, all_good]
    walk_at "rd0"
    exact hq

theorem fv__law_near (F : FnP K "_law_near" S__law_near f fd) (hm : mg "_law_near" = some (.ref f)) (B : Blt mg)  : FnV P w K mg base 1 "_law_near" ["_law_rows", "_law_pose"] [] (sp__law_near) := by
  refine fnV_mk F (fn_ok F sc__law_near _ (fun tw ds Q E h => by obtain ⟨rows, s, rfl, _⟩ := h; rfl) fun cdv A outer s H E tw hr tk po => ⟨_, (vss_cons (vs_own (i := 2) sc__law_near.nd rfl (by first | exact .inl rfl | exact .inr rfl) (ve_lst va_nil))
    (vss_cons (vs_for (T := (.one 3)) po rfl (vi_seq (vv 0)) (vg_one sc__law_near.nd (i := 3) rfl (by first | exact .inl rfl | exact .inr rfl)) (vss_one (vs_if (vt_eq hr (ve_len B rfl (va_cons (ve_lc rfl sc__law_near.nd (own := [("_law_mine", 4), ("_law_yours", 5)]) (T := (.many [4, 5])) (blkOk_by (N := N__law_near) (sc := defScope S__law_near) (by decide +kernel)) (by decide) (VI.vj (vi_zip B rfl (va_cons (vv 3) (va_cons (vv 1) va_nil)))) fun s H C cl fp => ⟨(vg_many (is := [4, 5]) rfl (pgs_cons (pg_name sc__law_near.nd (i := 4) rfl (by first | exact .inl rfl | exact .inr rfl) (by first | exact .inl rfl | exact .inr rfl)) (pgs_cons (pg_name sc__law_near.nd (i := 5) rfl (by first | exact .inl rfl | exact .inr rfl) (by first | exact .inl rfl | exact .inr rfl)) pgs_nil))), (vts_one (vt_ne hr (vv 4) (vv 5))), ve_int⟩) va_nil)) ve_int) (vss_one (vs_append (i := 2) (pv 2) (vv 3))) vss_nil)))
    (vss_one (vs_ret (vv 2))))), fun ds Qd Ed h => ?_⟩) hm (fun _ _ _ _ _ _ us hl => match us, hl with | [_, _], _ => rfl) (fun n hn => absurd hn (List.not_mem_nil))
  obtain ⟨rows, s, rfl, hl, hs, hq⟩ := h
  refine at_start (Γ := [SV.d _, SV.d _, SV.un, SV.un, SV.un, SV.un]) rfl ?_
  walk_at "rdn"
  refine for_acc (S := fun acc Γ => ∃ a : Option D, Γ = [.d (.p (.list (rows.map eS))), .d (.p (eS s)), .o (.p (.list acc)), sd a, .un, .un]) (enc := eS) (g := fun t => if adj1 s t = true then [eS t] else []) (as := rows) (acc := []) ⟨none, rfl⟩ ?_ (fun t ht acc Γ hS hn => ?_) fun Γ hS => ?_
  · have e := flatIf eS (adj1 s) rows
    rw [e, List.nil_append, List.length_map]
    have := List.length_filter_le (adj1 s) rows
    omega
  · obtain ⟨a, rfl⟩ := hS
    refine ⟨_, rfl, fun N hN => ?_⟩
    walk_at "rdn"
    rw [zipD_map]
    refine lc_filter0 (p := fun p : Int × Int => !decide (p.1 = p.2)) (f := fun _ => .int 1) (fun p hp => ⟨_, rfl, fun Q hQ => ?_, fun _ R hR => ?_⟩) (by rw [List.length_zip]; omega) ?_
    · walk_at "rdn"
      exact hQ
    · walk_at "rdn"
      exact hR
    walk_at "rdn"
    rw [List.length_map]
    have e : decide ((((t.zip s).filter fun p => !decide (p.1 = p.2)).length : Int) = 1) = adj1 s t := by
      rw [adj1_symm]
      unfold adj1
      by_cases q : ((t.zip s).filter fun p => !decide (p.1 = p.2)).length = 1
      · rw [decide_eq_true q, decide_eq_true (by omega)]
      · rw [decide_eq_false q, decide_eq_false (by omega)]
    rw [e]
    cases ha : adj1 s t with
    | true =>
      rw [ha, if_pos rfl] at hN hn
      rw [List.length_append, List.length_singleton] at hn
      walk_at "rdn"
      refine r_app rfl (by omega) ?_
      walk_at "rdn"
      exact hN _ ⟨some (.p (eS t)), rfl⟩
    | false =>
      rw [ha, if_neg (by decide), List.append_nil] at hN
      walk_at "rdn"
      exact hN _ ⟨some (.p (eS t)), rfl⟩
  · obtain ⟨a, rfl⟩ := hS
    rw [flatIf, List.nil_append]
    walk_at "rdn"
    exact hq

theorem fv__law_levels (F : FnP K "_law_levels" S__law_levels f fd) (hm : mg "_law_levels" = some (.ref f)) (B : Blt mg) (g__law_near : FnV P w K mg base 1 "_law_near" ["_law_rows", "_law_pose"] [] (sp__law_near)) : FnV P w K mg base 2 "_law_levels" ["_law_rows", "_law_begin"] [] (sp__law_levels) := by
  refine fnV_mk F (fn_ok F sc__law_levels _ (fun tw ds Q E h => by obtain ⟨rows, s, rfl, _⟩ := h; rfl) fun cdv A outer s H E tw hr tk po => ⟨_, (vss_cons (vs_par3 (i := 2) (j := 3) (l := 4) true false false rfl sc__law_levels.nd rfl rfl rfl (by decide) (by decide) (by decide) rfl rfl rfl (vp_cons (ve_dict1 hr (vv 1) ve_int) (vp_cons (ve_lst (va_cons (vv 1) va_nil)) (vp_cons ve_int vp_nil))) rfl)
    (vss_cons (vs_while po (vt_ne hr (vv 3) (ve_lst va_nil)) (vss_cons (vs_par2 (i := 5) (j := 4) true false rfl sc__law_levels.nd rfl rfl (by decide) rfl rfl (vp_cons (ve_lst va_nil) (vp_cons (ve_addP (vv 4) ve_int) vp_nil)) rfl)
    (vss_cons (vs_for (T := (.one 6)) po rfl (vi_seq (vv 3)) (vg_one sc__law_levels.nd (i := 6) rfl (by first | exact .inl rfl | exact .inr rfl)) (vss_one (vs_for (T := (.one 7)) po rfl (vi_seq (ve_call (g__law_near.mono (by decide)) hr tk rfl (va_cons (vv 0) (va_cons (vv 6) va_nil)))) (vg_one sc__law_levels.nd (i := 7) rfl (by first | exact .inl rfl | exact .inr rfl)) (vss_one (vs_if (vt_notIn hr (vv 7) (vv 2)) (vss_cons (vs_dput (i := 2) hr (pv 2) (vv 7) (vv 4))
    (vss_one (vs_append (i := 5) (pv 5) (vv 7)))) vss_nil)))))
    (vss_one (vs_move (i := 3) (j := 5) sc__law_levels.nd rfl (by first | exact .inl rfl | exact .inr rfl) rfl)))))
    (vss_one (vs_retZ (vv 2))))), fun ds Qd Ed h => ?_⟩) hm (fun _ _ _ _ _ _ us hl => match us, hl with | [_, _], _ => rfl) (fun n hn => absurd hn (List.not_mem_nil))
  obtain ⟨rows, s, rfl, hl, hx, hs, hq⟩ := h
  refine at_start (Γ := [SV.d _, SV.d _, SV.un, SV.un, SV.un, SV.un, SV.un, SV.un]) rfl ?_
  walk_at "rdn"
  refine r_while (α := LSt) (fun st Γ => ∃ a c : Option D, Γ = [.d (.p (.list (rows.map eS))), .d (.p (eS s)), .o (.dct st.1 (st.1.map (dvP rows s))), .d (.p (.list (st.2.1.map eS))), .d (dI st.2.2), .un, sd a, sd c]) (fun st => rows.length - st.1.length + st.2.1.length) (LJ rows s) (st := ([s], [s], 0)) ⟨none, none, by show _ = [_, _, SV.o (.dct [s] ([s].map (dvP rows s))), _, _, _, _, _]; rw [dvP_start hs]; rfl⟩ (LJ.start hs) fun st Γ N hS hJ hN => ?_
  obtain ⟨a, c, rfl⟩ := hS
  obtain ⟨ks, lv, m⟩ := st
  obtain ⟨g1, g2, g3⟩ := hJ.inR
  have g2 : ks.length ≤ rows.length := g2
  have g3 : lv.length ≤ rows.length := g3
  walk_at "rdn"
  refine r_neL0 (a := lv) rfl ?_
  walk_at "rdn"
  cases lv with
  | nil =>
    refine r_f rfl ?_
    walk_at "rdn"
    exact hq ks (hJ.li.done fun u hu => by cases (hJ.lv u).mpr hu)
  | cons p0 lv0 =>
    refine r_t rfl ?_
    walk_at "rdn"
    generalize hlv : p0 :: lv0 = lv at hJ g3 hN
    refine for_inv (enc := eS) (as := lv) (i := 0) (fun j Γ => ∃ (fs : List (List Int)) (a c : Option D), Γ = [.d (.p (.list (rows.map eS))), .d (.p (eS s)), .o (.dct (ks ++ fs) ((ks ++ fs).map (dvP rows s))), .d (.p (.list (lv.map eS))), .d (dI ((m : Int) + 1)), .o (.p (.list (fs.map eS))), sd a, sd c] ∧ LI rows adj1 s ks m fs ∧ ∀ u ∈ lv.take j, ∀ t ∈ rows, adj1 u t = true → t ∈ ks ++ fs) ⟨[], a, c, ?_, hJ.li, fun u hu => (by cases hu)⟩ (fun j here Γ hk hI => ?_) fun Γ hI => ?_
    · rw [List.append_nil, ← hlv]
      rfl
    · obtain ⟨fs, a, c, rfl, hL, hT⟩ := hI
      rw [Nat.zero_add] at hT ⊢
      have hh : IsD rows adj1 m s here := (hJ.lv here).mp (List.mem_of_getElem? hk)
      refine ⟨_, rfl, fun N hN => ?_⟩
      walk_at "rdn"
      refine ⟨rows, here, rfl, hl, hx here hh.1.lst, ?_⟩
      walk_at "rdn"
      refine for_inv (enc := eS) (as := rows.filter fun t => adj1 here t) (i := 0) (fun k Γ => ∃ (fs : List (List Int)) (c : Option D), Γ = [.d (.p (.list (rows.map eS))), .d (.p (eS s)), .o (.dct (ks ++ fs) ((ks ++ fs).map (dvP rows s))), .d (.p (.list (lv.map eS))), .d (dI ((m : Int) + 1)), .o (.p (.list (fs.map eS))), .d (.p (eS here)), sd c] ∧ LI rows adj1 s ks m fs ∧ (∀ u ∈ lv.take j, ∀ t ∈ rows, adj1 u t = true → t ∈ ks ++ fs) ∧ ∀ t ∈ (rows.filter fun t => adj1 here t).take k, t ∈ ks ++ fs) ⟨fs, c, rfl, hL, hT, fun t ht => (by cases ht)⟩ (fun k t Γ hk2 hI => ?_) fun Γ hI => ?_
      · obtain ⟨fs, c, rfl, hL, hT, hU⟩ := hI
        rw [Nat.zero_add] at hU ⊢
        have lens := hL.len
        obtain ⟨ht, hadj⟩ := List.mem_filter.mp (List.mem_of_getElem? hk2)
        refine ⟨_, rfl, fun N hN => ?_⟩
        walk_at "rdn"
        by_cases hm : t ∈ ks ++ fs
        · refine r_f (by show (!hasK (ks ++ fs) t) = false; rw [hasK_dec, decide_eq_true hm]; rfl) ?_
          walk_at "rdn"
          refine hN _ ⟨fs, some (.p (eS t)), rfl, hL, hT, fun x hx => ?_⟩
          rcases take_more hk2 x hx with h | rfl
          · exact hU x h
          · exact hm
        · have hm2 : hasK (ks ++ fs) t = false := by rw [hasK_dec, decide_eq_false hm]
          refine r_t (by show (!hasK (ks ++ fs) t) = true; rw [hm2]; rfl) ?_
          walk_at "rdn"
          refine r_dputw rfl (keyD_ints t) hm2 (by rw [List.length_append]; omega) ?_
          walk_at "rdn"
          refine r_app rfl (by rw [List.length_map]; omega) ?_
          walk_at "rdn"
          have hL2 := hL.more hh ht hadj hm
          refine hN _ ⟨fs ++ [t], some (.p (eS t)), ?_, hL2, fun u hu x hx e => ?_, fun x hx => ?_⟩
          · rw [← dvP_snoc (ks := ks) (fs := fs) (hL2.new t (by simp)), List.map_append (l₂ := [t]), ← List.append_assoc]
            rfl
          · rw [← List.append_assoc]
            exact List.mem_append_left _ (hT u hu x hx e)
          · rw [← List.append_assoc]
            rcases take_more hk2 x hx with h | rfl
            · exact List.mem_append_left _ (hU x h)
            · simp
      · obtain ⟨fs, c, rfl, hL, hT, hU⟩ := hI
        rw [Nat.zero_add, List.take_length] at hU
        refine hN _ ⟨fs, some (.p (eS here)), c, rfl, hL, fun u hu x hx e => ?_⟩
        rcases take_more hk u hu with h | rfl
        · exact hT u h x hx e
        · exact hU x (List.mem_filter.mpr ⟨hx, e⟩)
    · obtain ⟨fs, a, c, rfl, hL, hT⟩ := hI
      rw [Nat.zero_add, List.take_length] at hT
      have lens := hL.len
      obtain ⟨n1, n2⟩ := hL.next hJ.lv hT
      walk_at "rdn"
      refine hN (ks ++ fs, fs, m + 1) _ ⟨a, c, rfl⟩ ⟨n1, n2, (List.nodup_append.mp hL.nd).2.1⟩ ?_
      show rows.length - (ks ++ fs).length + fs.length < rows.length - ks.length + lv.length
      rw [← hlv, List.length_append, List.length_cons]
      omega

theorem fv_is_between (F : FnP K "is_between" S_is_between f fd) (hm : mg "is_between" = some (.ref f)) (B : Blt mg)  : FnV P w K mg base 1 "is_between" ["value", "low", "high"] [] (sp_is_between) := by
  refine fnV_mk F (fn_ok F sc_is_between _ (fun tw ds Q E h => by obtain ⟨v, lo, hi, rfl, _⟩ := h; rfl) fun cdv A outer s H E tw hr tk po => ⟨_, (vss_one (vs_ret (ve_and (ve_isi B rfl rfl B.int bb_int (by decide) (vv 0)) (ve_and (ve_not (ve_isi B rfl rfl B.bool bb_bool (by decide) (vv 0))) (ve_one (ve_lele (vv 1) (vv 0) (vv 2))))))), fun ds Qd Ed h => ?_⟩) hm (fun _ _ _ _ _ _ us hl => match us, hl with | [_, _, _], _ => rfl) (fun n hn => absurd hn (List.not_mem_nil))
  obtain ⟨v, lo, hi, rfl, hp, hq⟩ := h
  cases v with
  | int i =>
    simp only [dSeq, dNext, dBreak, dCont, dDrop, dRet, dRetN, dIf, dSet, dOwn, dMove, dAppend, dExtend, dFor, dForL, dUnp, dPar, dParGo, stD, dTgt, setAll, dVar, dC, dOp, dTest, dChain, dAnd, dOr, dNot, dAndV, dOrV, dNotV, dIfE, dTup, dLst, dats, dCons, dNil, dCB, gLen, gIsi, isTy, gAll, gAny, gAbs, gMax2, gMin2, gList, gTuple, gIx, gAddP, gMulP, gPow, gSub, gMod, gDiv, gLt, gLe, gGt, gGe, gI, gIc, gEq, gNe, gInP, gIs, gIsNot, isN, AV.val, AV.dat, AV.any, dCall, dCallK, vals, dLc, dLcL, dLenSet, dSl, dNo, dSome, dListRg, dCount, dRange, dZip, dSeqI, dSeqJ, dRaise, dYes, endsOf, startD, noOwn, wipeD, List.map_cons, List.map_nil, List.length_cons, List.length_nil, List.replicate_succ, List.replicate_zero, List.cons_append, List.nil_append, List.append_nil, Nat.reduceAdd, Nat.reduceSub, Nat.reduceLeDiff, Nat.le_refl, List.getElem?_cons_succ, List.getElem?_cons_zero, List.set_cons_succ, List.set_cons_zero, List.all_cons, List.all_nil, Bool.and_true, Bool.true_and, true_and, and_true, if_true, ite_true, ite_false, reduceIte, reduceCtorEq, Bool.false_eq_true, Nat.zero_add, Nat.zero_le, Nat.sub_zero, String.reduceEq, String.reduceBEq, Bool.or_true, Bool.or_false, Bool.true_or, Bool.false_or, Bool.not_true, Bool.not_false, beq_self_eq_true, Nat.sub_self, Nat.add_one_sub_one]
    by_cases h1 : lo ≤ i
    · have e1 : decide (lo ≤ i) = true := decide_eq_true h1
      have e2 : btw (.int i) lo hi = decide (i ≤ hi) := by rw [btw_int, e1]; rfl
      rw [e2] at hq
      rw [e1]
      exact hq
    · have e1 : decide (lo ≤ i) = false := decide_eq_false h1
      have e2 : btw (.int i) lo hi = false := by rw [btw_int, e1]; rfl
      rw [e2] at hq
      rw [e1]
      exact hq
  | dict kvs => cases hp
  | none => simp only [dSeq, dNext, dBreak, dCont, dDrop, dRet, dRetN, dIf, dSet, dOwn, dMove, dAppend, dExtend, dFor, dForL, dUnp, dPar, dParGo, stD, dTgt, setAll, dVar, dC, dOp, dTest, dChain, dAnd, dOr, dNot, dAndV, dOrV, dNotV, dIfE, dTup, dLst, dats, dCons, dNil, dCB, gLen, gIsi, isTy, gAll, gAny, gAbs, gMax2, gMin2, gList, gTuple, gIx, gAddP, gMulP, gPow, gSub, gMod, gDiv, gLt, gLe, gGt, gGe, gI, gIc, gEq, gNe, gInP, gIs, gIsNot, isN, AV.val, AV.dat, AV.any, dCall, dCallK, vals, dLc, dLcL, dLenSet, dSl, dNo, dSome, dListRg, dCount, dRange, dZip, dSeqI, dSeqJ, dRaise, dYes, endsOf, startD, noOwn, wipeD, List.map_cons, List.map_nil, List.length_cons, List.length_nil, List.replicate_succ, List.replicate_zero, List.cons_append, List.nil_append, List.append_nil, Nat.reduceAdd, Nat.reduceSub, Nat.reduceLeDiff, Nat.le_refl, List.getElem?_cons_succ, List.getElem?_cons_zero, List.set_cons_succ, List.set_cons_zero, List.all_cons, List.all_nil, Bool.and_true, Bool.true_and, true_and, and_true, if_true, ite_true, ite_false, reduceIte, reduceCtorEq, Bool.false_eq_true, Nat.zero_add, Nat.zero_le, Nat.sub_zero, String.reduceEq, String.reduceBEq, Bool.or_true, Bool.or_false, Bool.true_or, Bool.false_or, Bool.not_true, Bool.not_false, beq_self_eq_true, Nat.sub_self, Nat.add_one_sub_one]; exact hq
  | bool b => simp only [dSeq, dNext, dBreak, dCont, dDrop, dRet, dRetN, dIf, dSet, dOwn, dMove, dAppend, dExtend, dFor, dForL, dUnp, dPar, dParGo, stD, dTgt, setAll, dVar, dC, dOp, dTest, dChain, dAnd, dOr, dNot, dAndV, dOrV, dNotV, dIfE, dTup, dLst, dats, dCons, dNil, dCB, gLen, gIsi, isTy, gAll, gAny, gAbs, gMax2, gMin2, gList, gTuple, gIx, gAddP, gMulP, gPow, gSub, gMod, gDiv, gLt, gLe, gGt, gGe, gI, gIc, gEq, gNe, gInP, gIs, gIsNot, isN, AV.val, AV.dat, AV.any, dCall, dCallK, vals, dLc, dLcL, dLenSet, dSl, dNo, dSome, dListRg, dCount, dRange, dZip, dSeqI, dSeqJ, dRaise, dYes, endsOf, startD, noOwn, wipeD, List.map_cons, List.map_nil, List.length_cons, List.length_nil, List.replicate_succ, List.replicate_zero, List.cons_append, List.nil_append, List.append_nil, Nat.reduceAdd, Nat.reduceSub, Nat.reduceLeDiff, Nat.le_refl, List.getElem?_cons_succ, List.getElem?_cons_zero, List.set_cons_succ, List.set_cons_zero, List.all_cons, List.all_nil, Bool.and_true, Bool.true_and, true_and, and_true, if_true, ite_true, ite_false, reduceIte, reduceCtorEq, Bool.false_eq_true, Nat.zero_add, Nat.zero_le, Nat.sub_zero, String.reduceEq, String.reduceBEq, Bool.or_true, Bool.or_false, Bool.true_or, Bool.false_or, Bool.not_true, Bool.not_false, beq_self_eq_true, Nat.sub_self, Nat.add_one_sub_one]; exact hq
  | str s => simp only [dSeq, dNext, dBreak, dCont, dDrop, dRet, dRetN, dIf, dSet, dOwn, dMove, dAppend, dExtend, dFor, dForL, dUnp, dPar, dParGo, stD, dTgt, setAll, dVar, dC, dOp, dTest, dChain, dAnd, dOr, dNot, dAndV, dOrV, dNotV, dIfE, dTup, dLst, dats, dCons, dNil, dCB, gLen, gIsi, isTy, gAll, gAny, gAbs, gMax2, gMin2, gList, gTuple, gIx, gAddP, gMulP, gPow, gSub, gMod, gDiv, gLt, gLe, gGt, gGe, gI, gIc, gEq, gNe, gInP, gIs, gIsNot, isN, AV.val, AV.dat, AV.any, dCall, dCallK, vals, dLc, dLcL, dLenSet, dSl, dNo, dSome, dListRg, dCount, dRange, dZip, dSeqI, dSeqJ, dRaise, dYes, endsOf, startD, noOwn, wipeD, List.map_cons, List.map_nil, List.length_cons, List.length_nil, List.replicate_succ, List.replicate_zero, List.cons_append, List.nil_append, List.append_nil, Nat.reduceAdd, Nat.reduceSub, Nat.reduceLeDiff, Nat.le_refl, List.getElem?_cons_succ, List.getElem?_cons_zero, List.set_cons_succ, List.set_cons_zero, List.all_cons, List.all_nil, Bool.and_true, Bool.true_and, true_and, and_true, if_true, ite_true, ite_false, reduceIte, reduceCtorEq, Bool.false_eq_true, Nat.zero_add, Nat.zero_le, Nat.sub_zero, String.reduceEq, String.reduceBEq, Bool.or_true, Bool.or_false, Bool.true_or, Bool.false_or, Bool.not_true, Bool.not_false, beq_self_eq_true, Nat.sub_self, Nat.add_one_sub_one]; exact hq
  | list xs => simp only [dSeq, dNext, dBreak, dCont, dDrop, dRet, dRetN, dIf, dSet, dOwn, dMove, dAppend, dExtend, dFor, dForL, dUnp, dPar, dParGo, stD, dTgt, setAll, dVar, dC, dOp, dTest, dChain, dAnd, dOr, dNot, dAndV, dOrV, dNotV, dIfE, dTup, dLst, dats, dCons, dNil, dCB, gLen, gIsi, isTy, gAll, gAny, gAbs, gMax2, gMin2, gList, gTuple, gIx, gAddP, gMulP, gPow, gSub, gMod, gDiv, gLt, gLe, gGt, gGe, gI, gIc, gEq, gNe, gInP, gIs, gIsNot, isN, AV.val, AV.dat, AV.any, dCall, dCallK, vals, dLc, dLcL, dLenSet, dSl, dNo, dSome, dListRg, dCount, dRange, dZip, dSeqI, dSeqJ, dRaise, dYes, endsOf, startD, noOwn, wipeD, List.map_cons, List.map_nil, List.length_cons, List.length_nil, List.replicate_succ, List.replicate_zero, List.cons_append, List.nil_append, List.append_nil, Nat.reduceAdd, Nat.reduceSub, Nat.reduceLeDiff, Nat.le_refl, List.getElem?_cons_succ, List.getElem?_cons_zero, List.set_cons_succ, List.set_cons_zero, List.all_cons, List.all_nil, Bool.and_true, Bool.true_and, true_and, and_true, if_true, ite_true, ite_false, reduceIte, reduceCtorEq, Bool.false_eq_true, Nat.zero_add, Nat.zero_le, Nat.sub_zero, String.reduceEq, String.reduceBEq, Bool.or_true, Bool.or_false, Bool.true_or, Bool.false_or, Bool.not_true, Bool.not_false, beq_self_eq_true, Nat.sub_self, Nat.add_one_sub_one]; exact hq
  | tuple xs => simp only [dSeq, dNext, dBreak, dCont, dDrop, dRet, dRetN, dIf, dSet, dOwn, dMove, dAppend, dExtend, dFor, dForL, dUnp, dPar, dParGo, stD, dTgt, setAll, dVar, dC, dOp, dTest, dChain, dAnd, dOr, dNot, dAndV, dOrV, dNotV, dIfE, dTup, dLst, dats, dCons, dNil, dCB, gLen, gIsi, isTy, gAll, gAny, gAbs, gMax2, gMin2, gList, gTuple, gIx, gAddP, gMulP, gPow, gSub, gMod, gDiv, gLt, gLe, gGt, gGe, gI, gIc, gEq, gNe, gInP, gIs, gIsNot, isN, AV.val, AV.dat, AV.any, dCall, dCallK, vals, dLc, dLcL, dLenSet, dSl, dNo, dSome, dListRg, dCount, dRange, dZip, dSeqI, dSeqJ, dRaise, dYes, endsOf, startD, noOwn, wipeD, List.map_cons, List.map_nil, List.length_cons, List.length_nil, List.replicate_succ, List.replicate_zero, List.cons_append, List.nil_append, List.append_nil, Nat.reduceAdd, Nat.reduceSub, Nat.reduceLeDiff, Nat.le_refl, List.getElem?_cons_succ, List.getElem?_cons_zero, List.set_cons_succ, List.set_cons_zero, List.all_cons, List.all_nil, Bool.and_true, Bool.true_and, true_and, and_true, if_true, ite_true, ite_false, reduceIte, reduceCtorEq, Bool.false_eq_true, Nat.zero_add, Nat.zero_le, Nat.sub_zero, String.reduceEq, String.reduceBEq, Bool.or_true, Bool.or_false, Bool.true_or, Bool.false_or, Bool.not_true, Bool.not_false, beq_self_eq_true, Nat.sub_self, Nat.add_one_sub_one]; exact hq

theorem fv_are_between (F : FnP K "are_between" S_are_between f fd) (hm : mg "are_between" = some (.ref f)) (B : Blt mg) (g_is_between : FnV P w K mg base 1 "is_between" ["value", "low", "high"] [] (sp_is_between)) : FnV P w K mg base 2 "are_between" ["value", "many", "low", "high"] [] (sp_are_between) := by
  refine fnV_mk F (fn_ok F sc_are_between _ (fun tw ds Q E h => by obtain ⟨v, n, lo, hi, rfl, _⟩ := h; rfl) fun cdv A outer s H E tw hr tk po => ⟨_, (vss_one (vs_ret (ve_and (ve_isi B rfl rfl B.tuple bb_tuple (by decide) (vv 0)) (ve_and (ve_eq hr (ve_len B rfl (va_cons (vv 0) va_nil)) (vv 1)) (ve_one (ve_all B rfl rfl (va_cons (ve_lc rfl sc_are_between.nd (own := [("one", 4)]) (T := (.one 4)) (blkOk_by (N := N_are_between) (sc := defScope S_are_between) (by decide +kernel)) (by decide) (vj_seq (vv 0)) fun s H C cl fp => ⟨(vg_one sc_are_between.nd (i := 4) rfl (by first | exact .inl rfl | exact .inr rfl)), vts_nil, (ve_call (g_is_between.mono (by decide)) hr takes0 rfl (va_cons (vv 4) (va_cons (vv 2) (va_cons (vv 3) va_nil))))⟩) va_nil))))))), fun ds Qd Ed h => ?_⟩) hm (fun _ _ _ _ _ _ us hl => match us, hl with | [_, _, _, _], _ => rfl) (fun n hn => absurd hn (List.not_mem_nil))
  obtain ⟨v, n, lo, hi, rfl, hp, hz, hq⟩ := h
  cases v with
  | tuple xs =>
    simp only [dSeq, dNext, dBreak, dCont, dDrop, dRet, dRetN, dIf, dSet, dOwn, dMove, dAppend, dExtend, dFor, dForL, dUnp, dPar, dParGo, stD, dTgt, setAll, dVar, dC, dOp, dTest, dChain, dAnd, dOr, dNot, dAndV, dOrV, dNotV, dIfE, dTup, dLst, dats, dCons, dNil, dCB, gLen, gIsi, isTy, gAll, gAny, gAbs, gMax2, gMin2, gList, gTuple, gIx, gAddP, gMulP, gPow, gSub, gMod, gDiv, gLt, gLe, gGt, gGe, gI, gIc, gEq, gNe, gInP, gIs, gIsNot, isN, AV.val, AV.dat, AV.any, dCall, dCallK, vals, dLc, dLcL, dLenSet, dSl, dNo, dSome, dListRg, dCount, dRange, dZip, dSeqI, dSeqJ, dRaise, dYes, endsOf, startD, noOwn, wipeD, List.map_cons, List.map_nil, List.length_cons, List.length_nil, List.replicate_succ, List.replicate_zero, List.cons_append, List.nil_append, List.append_nil, Nat.reduceAdd, Nat.reduceSub, Nat.reduceLeDiff, Nat.le_refl, List.getElem?_cons_succ, List.getElem?_cons_zero, List.set_cons_succ, List.set_cons_zero, List.all_cons, List.all_nil, Bool.and_true, Bool.true_and, true_and, and_true, if_true, ite_true, ite_false, reduceIte, reduceCtorEq, Bool.false_eq_true, Nat.zero_add, Nat.zero_le, Nat.sub_zero, String.reduceEq, String.reduceBEq, Bool.or_true, Bool.or_false, Bool.true_or, Bool.false_or, Bool.not_true, Bool.not_false, beq_self_eq_true, Nat.sub_self, Nat.add_one_sub_one]
    refine ⟨ok_int _ _, ?_⟩
    rw [eqv_int]
    by_cases h1 : (xs.length : Int) = n
    · rw [decide_eq_true h1, if_pos rfl]
      refine lc_map (f := fun x => .bool (btw x lo hi)) (fun a ha => ⟨_, rfl, fun R hR => ?_⟩) (by omega) ?_
      · exact ⟨a, lo, hi, rfl, plain_mem (plain_tup hp) a ha, hR⟩
      · rw [boolsD_map]
        have e : areBtw (.tuple xs) n lo hi = (xs.map fun x => btw x lo hi).all id := by
          rw [areBtw_tup, decide_eq_true h1, Bool.true_and, List.all_map]
          rfl
        rw [e] at hq
        exact hq
    · rw [decide_eq_false h1, if_neg (by decide)]
      have e : areBtw (.tuple xs) n lo hi = false := by rw [areBtw_tup, decide_eq_false h1]; rfl
      rw [e] at hq
      exact hq
  | dict kvs => cases hp
  | none => simp only [dSeq, dNext, dBreak, dCont, dDrop, dRet, dRetN, dIf, dSet, dOwn, dMove, dAppend, dExtend, dFor, dForL, dUnp, dPar, dParGo, stD, dTgt, setAll, dVar, dC, dOp, dTest, dChain, dAnd, dOr, dNot, dAndV, dOrV, dNotV, dIfE, dTup, dLst, dats, dCons, dNil, dCB, gLen, gIsi, isTy, gAll, gAny, gAbs, gMax2, gMin2, gList, gTuple, gIx, gAddP, gMulP, gPow, gSub, gMod, gDiv, gLt, gLe, gGt, gGe, gI, gIc, gEq, gNe, gInP, gIs, gIsNot, isN, AV.val, AV.dat, AV.any, dCall, dCallK, vals, dLc, dLcL, dLenSet, dSl, dNo, dSome, dListRg, dCount, dRange, dZip, dSeqI, dSeqJ, dRaise, dYes, endsOf, startD, noOwn, wipeD, List.map_cons, List.map_nil, List.length_cons, List.length_nil, List.replicate_succ, List.replicate_zero, List.cons_append, List.nil_append, List.append_nil, Nat.reduceAdd, Nat.reduceSub, Nat.reduceLeDiff, Nat.le_refl, List.getElem?_cons_succ, List.getElem?_cons_zero, List.set_cons_succ, List.set_cons_zero, List.all_cons, List.all_nil, Bool.and_true, Bool.true_and, true_and, and_true, if_true, ite_true, ite_false, reduceIte, reduceCtorEq, Bool.false_eq_true, Nat.zero_add, Nat.zero_le, Nat.sub_zero, String.reduceEq, String.reduceBEq, Bool.or_true, Bool.or_false, Bool.true_or, Bool.false_or, Bool.not_true, Bool.not_false, beq_self_eq_true, Nat.sub_self, Nat.add_one_sub_one]; exact hq
  | bool b => simp only [dSeq, dNext, dBreak, dCont, dDrop, dRet, dRetN, dIf, dSet, dOwn, dMove, dAppend, dExtend, dFor, dForL, dUnp, dPar, dParGo, stD, dTgt, setAll, dVar, dC, dOp, dTest, dChain, dAnd, dOr, dNot, dAndV, dOrV, dNotV, dIfE, dTup, dLst, dats, dCons, dNil, dCB, gLen, gIsi, isTy, gAll, gAny, gAbs, gMax2, gMin2, gList, gTuple, gIx, gAddP, gMulP, gPow, gSub, gMod, gDiv, gLt, gLe, gGt, gGe, gI, gIc, gEq, gNe, gInP, gIs, gIsNot, isN, AV.val, AV.dat, AV.any, dCall, dCallK, vals, dLc, dLcL, dLenSet, dSl, dNo, dSome, dListRg, dCount, dRange, dZip, dSeqI, dSeqJ, dRaise, dYes, endsOf, startD, noOwn, wipeD, List.map_cons, List.map_nil, List.length_cons, List.length_nil, List.replicate_succ, List.replicate_zero, List.cons_append, List.nil_append, List.append_nil, Nat.reduceAdd, Nat.reduceSub, Nat.reduceLeDiff, Nat.le_refl, List.getElem?_cons_succ, List.getElem?_cons_zero, List.set_cons_succ, List.set_cons_zero, List.all_cons, List.all_nil, Bool.and_true, Bool.true_and, true_and, and_true, if_true, ite_true, ite_false, reduceIte, reduceCtorEq, Bool.false_eq_true, Nat.zero_add, Nat.zero_le, Nat.sub_zero, String.reduceEq, String.reduceBEq, Bool.or_true, Bool.or_false, Bool.true_or, Bool.false_or, Bool.not_true, Bool.not_false, beq_self_eq_true, Nat.sub_self, Nat.add_one_sub_one]; exact hq
  | str s => simp only [dSeq, dNext, dBreak, dCont, dDrop, dRet, dRetN, dIf, dSet, dOwn, dMove, dAppend, dExtend, dFor, dForL, dUnp, dPar, dParGo, stD, dTgt, setAll, dVar, dC, dOp, dTest, dChain, dAnd, dOr, dNot, dAndV, dOrV, dNotV, dIfE, dTup, dLst, dats, dCons, dNil, dCB, gLen, gIsi, isTy, gAll, gAny, gAbs, gMax2, gMin2, gList, gTuple, gIx, gAddP, gMulP, gPow, gSub, gMod, gDiv, gLt, gLe, gGt, gGe, gI, gIc, gEq, gNe, gInP, gIs, gIsNot, isN, AV.val, AV.dat, AV.any, dCall, dCallK, vals, dLc, dLcL, dLenSet, dSl, dNo, dSome, dListRg, dCount, dRange, dZip, dSeqI, dSeqJ, dRaise, dYes, endsOf, startD, noOwn, wipeD, List.map_cons, List.map_nil, List.length_cons, List.length_nil, List.replicate_succ, List.replicate_zero, List.cons_append, List.nil_append, List.append_nil, Nat.reduceAdd, Nat.reduceSub, Nat.reduceLeDiff, Nat.le_refl, List.getElem?_cons_succ, List.getElem?_cons_zero, List.set_cons_succ, List.set_cons_zero, List.all_cons, List.all_nil, Bool.and_true, Bool.true_and, true_and, and_true, if_true, ite_true, ite_false, reduceIte, reduceCtorEq, Bool.false_eq_true, Nat.zero_add, Nat.zero_le, Nat.sub_zero, String.reduceEq, String.reduceBEq, Bool.or_true, Bool.or_false, Bool.true_or, Bool.false_or, Bool.not_true, Bool.not_false, beq_self_eq_true, Nat.sub_self, Nat.add_one_sub_one]; exact hq
  | list xs => simp only [dSeq, dNext, dBreak, dCont, dDrop, dRet, dRetN, dIf, dSet, dOwn, dMove, dAppend, dExtend, dFor, dForL, dUnp, dPar, dParGo, stD, dTgt, setAll, dVar, dC, dOp, dTest, dChain, dAnd, dOr, dNot, dAndV, dOrV, dNotV, dIfE, dTup, dLst, dats, dCons, dNil, dCB, gLen, gIsi, isTy, gAll, gAny, gAbs, gMax2, gMin2, gList, gTuple, gIx, gAddP, gMulP, gPow, gSub, gMod, gDiv, gLt, gLe, gGt, gGe, gI, gIc, gEq, gNe, gInP, gIs, gIsNot, isN, AV.val, AV.dat, AV.any, dCall, dCallK, vals, dLc, dLcL, dLenSet, dSl, dNo, dSome, dListRg, dCount, dRange, dZip, dSeqI, dSeqJ, dRaise, dYes, endsOf, startD, noOwn, wipeD, List.map_cons, List.map_nil, List.length_cons, List.length_nil, List.replicate_succ, List.replicate_zero, List.cons_append, List.nil_append, List.append_nil, Nat.reduceAdd, Nat.reduceSub, Nat.reduceLeDiff, Nat.le_refl, List.getElem?_cons_succ, List.getElem?_cons_zero, List.set_cons_succ, List.set_cons_zero, List.all_cons, List.all_nil, Bool.and_true, Bool.true_and, true_and, and_true, if_true, ite_true, ite_false, reduceIte, reduceCtorEq, Bool.false_eq_true, Nat.zero_add, Nat.zero_le, Nat.sub_zero, String.reduceEq, String.reduceBEq, Bool.or_true, Bool.or_false, Bool.true_or, Bool.false_or, Bool.not_true, Bool.not_false, beq_self_eq_true, Nat.sub_self, Nat.add_one_sub_one]; exact hq
  | int i => simp only [dSeq, dNext, dBreak, dCont, dDrop, dRet, dRetN, dIf, dSet, dOwn, dMove, dAppend, dExtend, dFor, dForL, dUnp, dPar, dParGo, stD, dTgt, setAll, dVar, dC, dOp, dTest, dChain, dAnd, dOr, dNot, dAndV, dOrV, dNotV, dIfE, dTup, dLst, dats, dCons, dNil, dCB, gLen, gIsi, isTy, gAll, gAny, gAbs, gMax2, gMin2, gList, gTuple, gIx, gAddP, gMulP, gPow, gSub, gMod, gDiv, gLt, gLe, gGt, gGe, gI, gIc, gEq, gNe, gInP, gIs, gIsNot, isN, AV.val, AV.dat, AV.any, dCall, dCallK, vals, dLc, dLcL, dLenSet, dSl, dNo, dSome, dListRg, dCount, dRange, dZip, dSeqI, dSeqJ, dRaise, dYes, endsOf, startD, noOwn, wipeD, List.map_cons, List.map_nil, List.length_cons, List.length_nil, List.replicate_succ, List.replicate_zero, List.cons_append, List.nil_append, List.append_nil, Nat.reduceAdd, Nat.reduceSub, Nat.reduceLeDiff, Nat.le_refl, List.getElem?_cons_succ, List.getElem?_cons_zero, List.set_cons_succ, List.set_cons_zero, List.all_cons, List.all_nil, Bool.and_true, Bool.true_and, true_and, and_true, if_true, ite_true, ite_false, reduceIte, reduceCtorEq, Bool.false_eq_true, Nat.zero_add, Nat.zero_le, Nat.sub_zero, String.reduceEq, String.reduceBEq, Bool.or_true, Bool.or_false, Bool.true_or, Bool.false_or, Bool.not_true, Bool.not_false, beq_self_eq_true, Nat.sub_self, Nat.add_one_sub_one]; exact hq

theorem fv_is_hold (F : FnP K "is_hold" S_is_hold f fd) (hm : mg "is_hold" = some (.ref f)) (B : Blt mg) (g_are_between : FnV P w K mg base 2 "are_between" ["value", "many", "low", "high"] [] (sp_are_between)) : FnV P w K mg base 3 "is_hold" ["value"] [] (sp_is_hold) := by
  refine fnV_mk F (fn_ok F sc_is_hold _ (fun tw ds Q E h => by obtain ⟨v, rfl, _⟩ := h; rfl) fun cdv A outer s H E tw hr tk po => ⟨_, (vss_one (vs_ret (ve_and (ve_call (g_are_between.mono (by decide)) hr tk rfl (va_cons (vv 0) (va_cons ve_int (va_cons ve_int (va_cons ve_int va_nil))))) (ve_one (ve_lele ve_int (ve_ix (vv 0) ve_int) ve_int))))), fun ds Qd Ed h => ?_⟩) hm (fun _ _ _ _ _ _ us hl => match us, hl with | [_], _ => rfl) (fun n hn => absurd hn (List.not_mem_nil))
  obtain ⟨v, rfl, hp, hq⟩ := h
  simp only [dSeq, dNext, dBreak, dCont, dDrop, dRet, dRetN, dIf, dSet, dOwn, dMove, dAppend, dExtend, dFor, dForL, dUnp, dPar, dParGo, stD, dTgt, setAll, dVar, dC, dOp, dTest, dChain, dAnd, dOr, dNot, dAndV, dOrV, dNotV, dIfE, dTup, dLst, dats, dCons, dNil, dCB, gLen, gIsi, isTy, gAll, gAny, gAbs, gMax2, gMin2, gList, gTuple, gIx, gAddP, gMulP, gPow, gSub, gMod, gDiv, gLt, gLe, gGt, gGe, gI, gIc, gEq, gNe, gInP, gIs, gIsNot, isN, AV.val, AV.dat, AV.any, dCall, dCallK, vals, dLc, dLcL, dLenSet, dSl, dNo, dSome, dListRg, dCount, dRange, dZip, dSeqI, dSeqJ, dRaise, dYes, endsOf, startD, noOwn, wipeD, List.map_cons, List.map_nil, List.length_cons, List.length_nil, List.replicate_succ, List.replicate_zero, List.cons_append, List.nil_append, List.append_nil, Nat.reduceAdd, Nat.reduceSub, Nat.reduceLeDiff, Nat.le_refl, List.getElem?_cons_succ, List.getElem?_cons_zero, List.set_cons_succ, List.set_cons_zero, List.all_cons, List.all_nil, Bool.and_true, Bool.true_and, true_and, and_true, if_true, ite_true, ite_false, reduceIte, reduceCtorEq, Bool.false_eq_true, Nat.zero_add, Nat.zero_le, Nat.sub_zero, String.reduceEq, String.reduceBEq, Bool.or_true, Bool.or_false, Bool.true_or, Bool.false_or, Bool.not_true, Bool.not_false, beq_self_eq_true, Nat.sub_self, Nat.add_one_sub_one]
  refine ⟨v, 3, 0, 20, rfl, hp, by decide, ?_⟩
  cases hb : areBtw v 3 0 20 with
  | true =>
    obtain ⟨is, rfl, h1, h2⟩ := areBtw_is hb
    match is, h1 with
    | [x, y, z], _ =>
      have e : holdOk (.tuple ([x, y, z].map .int)) = (decide (1 ≤ z) && decide (z ≤ 2)) := by unfold holdOk; rw [hb]; rfl
      rw [e] at hq
      simp only [List.map_cons, List.map_nil, at2]
      simp only [dSeq, dNext, dBreak, dCont, dDrop, dRet, dRetN, dIf, dSet, dOwn, dMove, dAppend, dExtend, dFor, dForL, dUnp, dPar, dParGo, stD, dTgt, setAll, dVar, dC, dOp, dTest, dChain, dAnd, dOr, dNot, dAndV, dOrV, dNotV, dIfE, dTup, dLst, dats, dCons, dNil, dCB, gLen, gIsi, isTy, gAll, gAny, gAbs, gMax2, gMin2, gList, gTuple, gIx, gAddP, gMulP, gPow, gSub, gMod, gDiv, gLt, gLe, gGt, gGe, gI, gIc, gEq, gNe, gInP, gIs, gIsNot, isN, AV.val, AV.dat, AV.any, dCall, dCallK, vals, dLc, dLcL, dLenSet, dSl, dNo, dSome, dListRg, dCount, dRange, dZip, dSeqI, dSeqJ, dRaise, dYes, endsOf, startD, noOwn, wipeD, List.map_cons, List.map_nil, List.length_cons, List.length_nil, List.replicate_succ, List.replicate_zero, List.cons_append, List.nil_append, List.append_nil, Nat.reduceAdd, Nat.reduceSub, Nat.reduceLeDiff, Nat.le_refl, List.getElem?_cons_succ, List.getElem?_cons_zero, List.set_cons_succ, List.set_cons_zero, List.all_cons, List.all_nil, Bool.and_true, Bool.true_and, true_and, and_true, if_true, ite_true, ite_false, reduceIte, reduceCtorEq, Bool.false_eq_true, Nat.zero_add, Nat.zero_le, Nat.sub_zero, String.reduceEq, String.reduceBEq, Bool.or_true, Bool.or_false, Bool.true_or, Bool.false_or, Bool.not_true, Bool.not_false, beq_self_eq_true, Nat.sub_self, Nat.add_one_sub_one]
      cases h5 : decide (1 ≤ z) with
      | true => rw [h5] at hq; exact hq
      | false => rw [h5] at hq; exact hq
  | false =>
    have e : holdOk v = false := by unfold holdOk; rw [hb]; rfl
    rw [e] at hq
    exact hq

theorem fv_is_rock (F : FnP K "is_rock" S_is_rock f fd) (hm : mg "is_rock" = some (.ref f)) (B : Blt mg) (g_is_hold : FnV P w K mg base 3 "is_hold" ["value"] [] (sp_is_hold)) : FnV P w K mg base 4 "is_rock" ["value"] [] (sp_is_rock) := by
  refine fnV_mk F (fn_ok F sc_is_rock _ (fun tw ds Q E h => by obtain ⟨v, rfl, _⟩ := h; rfl) fun cdv A outer s H E tw hr tk po => ⟨_, (vss_cons (vs_if (PW.pt (vw_or (vt_not (vt_val (ve_isi B rfl rfl B.tuple bb_tuple (by decide) (vv 0)))) (vw_or (vt_not (vt_lele ve_int (ve_len B rfl (va_cons (vv 0) va_nil)) ve_int)) (vw_or1 (vt_not (vt_val (ve_all B rfl rfl (va_cons (ve_lc rfl sc_is_rock.nd (own := [("one", 1)]) (T := (.one 1)) (blkOk_by (N := N_is_rock) (sc := defScope S_is_rock) (by decide +kernel)) (by decide) (vj_seq (vv 0)) fun s H C cl fp => ⟨(vg_one sc_is_rock.nd (i := 1) rfl (by first | exact .inl rfl | exact .inr rfl)), vts_nil, (ve_call (g_is_hold.mono (by decide)) hr takes0 rfl (va_cons (vv 1) va_nil))⟩) va_nil)))))))) (vss_one (vs_ret ve_bl)) vss_nil)
    (vss_one (vs_ret (ve_eq hr (ve_lenset B hr rfl rfl rfl (ve_lc rfl sc_is_rock.nd (own := [("one", 1)]) (T := (.one 1)) (blkOk_by (N := N_is_rock) (sc := defScope S_is_rock) (by decide +kernel)) (by decide) (vj_seq (vv 0)) fun s H C cl fp => ⟨(vg_one sc_is_rock.nd (i := 1) rfl (by first | exact .inl rfl | exact .inr rfl)), vts_nil, (ve_slice (vv 1) vo_none (vo_some ve_int))⟩)) (ve_len B rfl (va_cons (vv 0) va_nil)))))), fun ds Qd Ed h => ?_⟩) hm (fun _ _ _ _ _ _ us hl => match us, hl with | [_], _ => rfl) (fun n hn => absurd hn (List.not_mem_nil))
  obtain ⟨v, rfl, hp, hq⟩ := h
  cases v with
  | tuple hs =>
    simp only [dSeq, dNext, dBreak, dCont, dDrop, dRet, dRetN, dIf, dSet, dOwn, dMove, dAppend, dExtend, dFor, dForL, dUnp, dPar, dParGo, stD, dTgt, setAll, dVar, dC, dOp, dTest, dChain, dAnd, dOr, dNot, dAndV, dOrV, dNotV, dIfE, dTup, dLst, dats, dCons, dNil, dCB, gLen, gIsi, isTy, gAll, gAny, gAbs, gMax2, gMin2, gList, gTuple, gIx, gAddP, gMulP, gPow, gSub, gMod, gDiv, gLt, gLe, gGt, gGe, gI, gIc, gEq, gNe, gInP, gIs, gIsNot, isN, AV.val, AV.dat, AV.any, dCall, dCallK, vals, dLc, dLcL, dLenSet, dSl, dNo, dSome, dListRg, dCount, dRange, dZip, dSeqI, dSeqJ, dRaise, dYes, endsOf, startD, noOwn, wipeD, List.map_cons, List.map_nil, List.length_cons, List.length_nil, List.replicate_succ, List.replicate_zero, List.cons_append, List.nil_append, List.append_nil, Nat.reduceAdd, Nat.reduceSub, Nat.reduceLeDiff, Nat.le_refl, List.getElem?_cons_succ, List.getElem?_cons_zero, List.set_cons_succ, List.set_cons_zero, List.all_cons, List.all_nil, Bool.and_true, Bool.true_and, true_and, and_true, if_true, ite_true, ite_false, reduceIte, reduceCtorEq, Bool.false_eq_true, Nat.zero_add, Nat.zero_le, Nat.sub_zero, String.reduceEq, String.reduceBEq, Bool.or_true, Bool.or_false, Bool.true_or, Bool.false_or, Bool.not_true, Bool.not_false, beq_self_eq_true, Nat.sub_self, Nat.add_one_sub_one]
    rw [rockOk_tup] at hq
    by_cases h1 : 1 ≤ hs.length
    · rw [decide_eq_true (show (1 : Int) ≤ (hs.length : Int) by omega)]
      rw [decide_eq_true h1, Bool.true_and] at hq
      by_cases h2 : hs.length ≤ 7
      · rw [decide_eq_true h2, Bool.true_and] at hq
        refine ite_f (by rw [decide_eq_true (show (hs.length : Int) ≤ 7 by omega)]; rfl) ?_
        refine lc_map (f := fun x => .bool (holdOk x)) (fun a ha => ⟨_, rfl, fun R hR => ?_⟩) (by omega) ?_
        · exact ⟨a, rfl, plain_mem (plain_tup hp) a ha, hR⟩
        · rw [boolsD_map]
          cases h3 : hs.all holdOk with
          | false =>
            rw [h3] at hq
            refine ite_t (by rw [List.all_map]; show (!(hs.all holdOk)) = true; rw [h3]; rfl) ?_
            exact hq
          | true =>
            rw [h3, Bool.true_and] at hq
            refine ite_f (by rw [List.all_map]; show (!(hs.all holdOk)) = false; rw [h3]; rfl) ?_
            refine lc_map (f := fun x => .tuple ((posD x).map .int)) (fun a ha => ?_) (by omega) ?_
            · obtain ⟨b, rfl, _⟩ := holdOk_is (List.all_eq_true.mp h3 a ha)
              exact ⟨_, rfl, fun R hR => hR⟩
            · rw [keysD_map]
              refine ⟨by rw [List.length_map]; omega, ok_int _ _, ?_⟩
              rw [eqv_int]
              have e : decide (((ddp (hs.map posD)).length : Int) = (hs.length : Int)) = decide ((ddp (hs.map posD)).length = hs.length) := by
                by_cases q : (ddp (hs.map posD)).length = hs.length
                · rw [decide_eq_true q, decide_eq_true (by omega)]
                · rw [decide_eq_false q, decide_eq_false (by omega)]
              rw [e]
              exact hq
      · rw [decide_eq_false h2, Bool.false_and, Bool.false_and] at hq
        exact ite_t (by rw [decide_eq_false (show ¬ (hs.length : Int) ≤ 7 by omega)]; rfl) hq
    · rw [decide_eq_false h1, Bool.false_and, Bool.false_and, Bool.false_and] at hq
      rw [decide_eq_false (show ¬ (1 : Int) ≤ (hs.length : Int) by omega)]
      exact hq
  | dict kvs => cases hp
  | none => simp only [dSeq, dNext, dBreak, dCont, dDrop, dRet, dRetN, dIf, dSet, dOwn, dMove, dAppend, dExtend, dFor, dForL, dUnp, dPar, dParGo, stD, dTgt, setAll, dVar, dC, dOp, dTest, dChain, dAnd, dOr, dNot, dAndV, dOrV, dNotV, dIfE, dTup, dLst, dats, dCons, dNil, dCB, gLen, gIsi, isTy, gAll, gAny, gAbs, gMax2, gMin2, gList, gTuple, gIx, gAddP, gMulP, gPow, gSub, gMod, gDiv, gLt, gLe, gGt, gGe, gI, gIc, gEq, gNe, gInP, gIs, gIsNot, isN, AV.val, AV.dat, AV.any, dCall, dCallK, vals, dLc, dLcL, dLenSet, dSl, dNo, dSome, dListRg, dCount, dRange, dZip, dSeqI, dSeqJ, dRaise, dYes, endsOf, startD, noOwn, wipeD, List.map_cons, List.map_nil, List.length_cons, List.length_nil, List.replicate_succ, List.replicate_zero, List.cons_append, List.nil_append, List.append_nil, Nat.reduceAdd, Nat.reduceSub, Nat.reduceLeDiff, Nat.le_refl, List.getElem?_cons_succ, List.getElem?_cons_zero, List.set_cons_succ, List.set_cons_zero, List.all_cons, List.all_nil, Bool.and_true, Bool.true_and, true_and, and_true, if_true, ite_true, ite_false, reduceIte, reduceCtorEq, Bool.false_eq_true, Nat.zero_add, Nat.zero_le, Nat.sub_zero, String.reduceEq, String.reduceBEq, Bool.or_true, Bool.or_false, Bool.true_or, Bool.false_or, Bool.not_true, Bool.not_false, beq_self_eq_true, Nat.sub_self, Nat.add_one_sub_one]; exact hq
  | bool b => simp only [dSeq, dNext, dBreak, dCont, dDrop, dRet, dRetN, dIf, dSet, dOwn, dMove, dAppend, dExtend, dFor, dForL, dUnp, dPar, dParGo, stD, dTgt, setAll, dVar, dC, dOp, dTest, dChain, dAnd, dOr, dNot, dAndV, dOrV, dNotV, dIfE, dTup, dLst, dats, dCons, dNil, dCB, gLen, gIsi, isTy, gAll, gAny, gAbs, gMax2, gMin2, gList, gTuple, gIx, gAddP, gMulP, gPow, gSub, gMod, gDiv, gLt, gLe, gGt, gGe, gI, gIc, gEq, gNe, gInP, gIs, gIsNot, isN, AV.val, AV.dat, AV.any, dCall, dCallK, vals, dLc, dLcL, dLenSet, dSl, dNo, dSome, dListRg, dCount, dRange, dZip, dSeqI, dSeqJ, dRaise, dYes, endsOf, startD, noOwn, wipeD, List.map_cons, List.map_nil, List.length_cons, List.length_nil, List.replicate_succ, List.replicate_zero, List.cons_append, List.nil_append, List.append_nil, Nat.reduceAdd, Nat.reduceSub, Nat.reduceLeDiff, Nat.le_refl, List.getElem?_cons_succ, List.getElem?_cons_zero, List.set_cons_succ, List.set_cons_zero, List.all_cons, List.all_nil, Bool.and_true, Bool.true_and, true_and, and_true, if_true, ite_true, ite_false, reduceIte, reduceCtorEq, Bool.false_eq_true, Nat.zero_add, Nat.zero_le, Nat.sub_zero, String.reduceEq, String.reduceBEq, Bool.or_true, Bool.or_false, Bool.true_or, Bool.false_or, Bool.not_true, Bool.not_false, beq_self_eq_true, Nat.sub_self, Nat.add_one_sub_one]; exact hq
  | str s => simp only [dSeq, dNext, dBreak, dCont, dDrop, dRet, dRetN, dIf, dSet, dOwn, dMove, dAppend, dExtend, dFor, dForL, dUnp, dPar, dParGo, stD, dTgt, setAll, dVar, dC, dOp, dTest, dChain, dAnd, dOr, dNot, dAndV, dOrV, dNotV, dIfE, dTup, dLst, dats, dCons, dNil, dCB, gLen, gIsi, isTy, gAll, gAny, gAbs, gMax2, gMin2, gList, gTuple, gIx, gAddP, gMulP, gPow, gSub, gMod, gDiv, gLt, gLe, gGt, gGe, gI, gIc, gEq, gNe, gInP, gIs, gIsNot, isN, AV.val, AV.dat, AV.any, dCall, dCallK, vals, dLc, dLcL, dLenSet, dSl, dNo, dSome, dListRg, dCount, dRange, dZip, dSeqI, dSeqJ, dRaise, dYes, endsOf, startD, noOwn, wipeD, List.map_cons, List.map_nil, List.length_cons, List.length_nil, List.replicate_succ, List.replicate_zero, List.cons_append, List.nil_append, List.append_nil, Nat.reduceAdd, Nat.reduceSub, Nat.reduceLeDiff, Nat.le_refl, List.getElem?_cons_succ, List.getElem?_cons_zero, List.set_cons_succ, List.set_cons_zero, List.all_cons, List.all_nil, Bool.and_true, Bool.true_and, true_and, and_true, if_true, ite_true, ite_false, reduceIte, reduceCtorEq, Bool.false_eq_true, Nat.zero_add, Nat.zero_le, Nat.sub_zero, String.reduceEq, String.reduceBEq, Bool.or_true, Bool.or_false, Bool.true_or, Bool.false_or, Bool.not_true, Bool.not_false, beq_self_eq_true, Nat.sub_self, Nat.add_one_sub_one]; exact hq
  | list xs => simp only [dSeq, dNext, dBreak, dCont, dDrop, dRet, dRetN, dIf, dSet, dOwn, dMove, dAppend, dExtend, dFor, dForL, dUnp, dPar, dParGo, stD, dTgt, setAll, dVar, dC, dOp, dTest, dChain, dAnd, dOr, dNot, dAndV, dOrV, dNotV, dIfE, dTup, dLst, dats, dCons, dNil, dCB, gLen, gIsi, isTy, gAll, gAny, gAbs, gMax2, gMin2, gList, gTuple, gIx, gAddP, gMulP, gPow, gSub, gMod, gDiv, gLt, gLe, gGt, gGe, gI, gIc, gEq, gNe, gInP, gIs, gIsNot, isN, AV.val, AV.dat, AV.any, dCall, dCallK, vals, dLc, dLcL, dLenSet, dSl, dNo, dSome, dListRg, dCount, dRange, dZip, dSeqI, dSeqJ, dRaise, dYes, endsOf, startD, noOwn, wipeD, List.map_cons, List.map_nil, List.length_cons, List.length_nil, List.replicate_succ, List.replicate_zero, List.cons_append, List.nil_append, List.append_nil, Nat.reduceAdd, Nat.reduceSub, Nat.reduceLeDiff, Nat.le_refl, List.getElem?_cons_succ, List.getElem?_cons_zero, List.set_cons_succ, List.set_cons_zero, List.all_cons, List.all_nil, Bool.and_true, Bool.true_and, true_and, and_true, if_true, ite_true, ite_false, reduceIte, reduceCtorEq, Bool.false_eq_true, Nat.zero_add, Nat.zero_le, Nat.sub_zero, String.reduceEq, String.reduceBEq, Bool.or_true, Bool.or_false, Bool.true_or, Bool.false_or, Bool.not_true, Bool.not_false, beq_self_eq_true, Nat.sub_self, Nat.add_one_sub_one]; exact hq
  | int i => simp only [dSeq, dNext, dBreak, dCont, dDrop, dRet, dRetN, dIf, dSet, dOwn, dMove, dAppend, dExtend, dFor, dForL, dUnp, dPar, dParGo, stD, dTgt, setAll, dVar, dC, dOp, dTest, dChain, dAnd, dOr, dNot, dAndV, dOrV, dNotV, dIfE, dTup, dLst, dats, dCons, dNil, dCB, gLen, gIsi, isTy, gAll, gAny, gAbs, gMax2, gMin2, gList, gTuple, gIx, gAddP, gMulP, gPow, gSub, gMod, gDiv, gLt, gLe, gGt, gGe, gI, gIc, gEq, gNe, gInP, gIs, gIsNot, isN, AV.val, AV.dat, AV.any, dCall, dCallK, vals, dLc, dLcL, dLenSet, dSl, dNo, dSome, dListRg, dCount, dRange, dZip, dSeqI, dSeqJ, dRaise, dYes, endsOf, startD, noOwn, wipeD, List.map_cons, List.map_nil, List.length_cons, List.length_nil, List.replicate_succ, List.replicate_zero, List.cons_append, List.nil_append, List.append_nil, Nat.reduceAdd, Nat.reduceSub, Nat.reduceLeDiff, Nat.le_refl, List.getElem?_cons_succ, List.getElem?_cons_zero, List.set_cons_succ, List.set_cons_zero, List.all_cons, List.all_nil, Bool.and_true, Bool.true_and, true_and, and_true, if_true, ite_true, ite_false, reduceIte, reduceCtorEq, Bool.false_eq_true, Nat.zero_add, Nat.zero_le, Nat.sub_zero, String.reduceEq, String.reduceBEq, Bool.or_true, Bool.or_false, Bool.true_or, Bool.false_or, Bool.not_true, Bool.not_false, beq_self_eq_true, Nat.sub_self, Nat.add_one_sub_one]; exact hq

theorem fv_check_rock (F : FnP K "check_rock" S_check_rock f fd) (hm : mg "check_rock" = some (.ref f)) (B : Blt mg) (g_is_rock : FnV P w K mg base 4 "is_rock" ["value"] [] (sp_is_rock)) (x_InvalidRock : ExcV K mg "InvalidRock" (ec "InvalidRock")) : FnV P w K mg base 5 "check_rock" ["rock"] [] (sp_check_rock ec) := by
  refine fnV_mk F (fn_ok F sc_check_rock _ (fun tw ds Q E h => by obtain ⟨v, rfl, _⟩ := h; rfl) fun cdv A outer s H E tw hr tk po => ⟨_, (vss_one (vs_if (vt_not (vt_val (ve_call (g_is_rock.mono (by decide)) hr tk rfl (va_cons (vv 0) va_nil)))) (vss_one (vs_raise rfl tk rfl x_InvalidRock)) vss_nil)), fun ds Qd Ed h => ?_⟩) hm (fun _ _ _ _ _ _ us hl => match us, hl with | [_], _ => rfl) (fun n hn => absurd hn (List.not_mem_nil))
  obtain ⟨v, rfl, hp, hq⟩ := h
  simp only [dSeq, dNext, dBreak, dCont, dDrop, dRet, dRetN, dIf, dSet, dOwn, dMove, dAppend, dExtend, dFor, dForL, dUnp, dPar, dParGo, stD, dTgt, setAll, dVar, dC, dOp, dTest, dChain, dAnd, dOr, dNot, dAndV, dOrV, dNotV, dIfE, dTup, dLst, dats, dCons, dNil, dCB, gLen, gIsi, isTy, gAll, gAny, gAbs, gMax2, gMin2, gList, gTuple, gIx, gAddP, gMulP, gPow, gSub, gMod, gDiv, gLt, gLe, gGt, gGe, gI, gIc, gEq, gNe, gInP, gIs, gIsNot, isN, AV.val, AV.dat, AV.any, dCall, dCallK, vals, dLc, dLcL, dLenSet, dSl, dNo, dSome, dListRg, dCount, dRange, dZip, dSeqI, dSeqJ, dRaise, dYes, endsOf, startD, noOwn, wipeD, List.map_cons, List.map_nil, List.length_cons, List.length_nil, List.replicate_succ, List.replicate_zero, List.cons_append, List.nil_append, List.append_nil, Nat.reduceAdd, Nat.reduceSub, Nat.reduceLeDiff, Nat.le_refl, List.getElem?_cons_succ, List.getElem?_cons_zero, List.set_cons_succ, List.set_cons_zero, List.all_cons, List.all_nil, Bool.and_true, Bool.true_and, true_and, and_true, if_true, ite_true, ite_false, reduceIte, reduceCtorEq, Bool.false_eq_true, Nat.zero_add, Nat.zero_le, Nat.sub_zero, String.reduceEq, String.reduceBEq, Bool.or_true, Bool.or_false, Bool.true_or, Bool.false_or, Bool.not_true, Bool.not_false, beq_self_eq_true, Nat.sub_self, Nat.add_one_sub_one]
  refine ⟨v, rfl, hp, ?_⟩
  cases hb : rockOk v with
  | true => rw [hb] at hq; exact hq
  | false => rw [hb] at hq; exact hq

theorem fv_is_body (F : FnP K "is_body" S_is_body f fd) (hm : mg "is_body" = some (.ref f)) (B : Blt mg) (g_are_between : FnV P w K mg base 2 "are_between" ["value", "many", "low", "high"] [] (sp_are_between)) : FnV P w K mg base 3 "is_body" ["value"] [] (sp_is_body) := by
  refine fnV_mk F (fn_ok F sc_is_body _ (fun tw ds Q E h => by obtain ⟨v, rfl, _⟩ := h; rfl) fun cdv A outer s H E tw hr tk po => ⟨_, (vss_one (vs_ret (ve_call (g_are_between.mono (by decide)) hr tk rfl (va_cons (vv 0) (va_cons ve_int (va_cons ve_int (va_cons ve_int va_nil))))))), fun ds Qd Ed h => ?_⟩) hm (fun _ _ _ _ _ _ us hl => match us, hl with | [_], _ => rfl) (fun n hn => absurd hn (List.not_mem_nil))
  obtain ⟨v, rfl, hp, hq⟩ := h
  simp only [dSeq, dNext, dBreak, dCont, dDrop, dRet, dRetN, dIf, dSet, dOwn, dMove, dAppend, dExtend, dFor, dForL, dUnp, dPar, dParGo, stD, dTgt, setAll, dVar, dC, dOp, dTest, dChain, dAnd, dOr, dNot, dAndV, dOrV, dNotV, dIfE, dTup, dLst, dats, dCons, dNil, dCB, gLen, gIsi, isTy, gAll, gAny, gAbs, gMax2, gMin2, gList, gTuple, gIx, gAddP, gMulP, gPow, gSub, gMod, gDiv, gLt, gLe, gGt, gGe, gI, gIc, gEq, gNe, gInP, gIs, gIsNot, isN, AV.val, AV.dat, AV.any, dCall, dCallK, vals, dLc, dLcL, dLenSet, dSl, dNo, dSome, dListRg, dCount, dRange, dZip, dSeqI, dSeqJ, dRaise, dYes, endsOf, startD, noOwn, wipeD, List.map_cons, List.map_nil, List.length_cons, List.length_nil, List.replicate_succ, List.replicate_zero, List.cons_append, List.nil_append, List.append_nil, Nat.reduceAdd, Nat.reduceSub, Nat.reduceLeDiff, Nat.le_refl, List.getElem?_cons_succ, List.getElem?_cons_zero, List.set_cons_succ, List.set_cons_zero, List.all_cons, List.all_nil, Bool.and_true, Bool.true_and, true_and, and_true, if_true, ite_true, ite_false, reduceIte, reduceCtorEq, Bool.false_eq_true, Nat.zero_add, Nat.zero_le, Nat.sub_zero, String.reduceEq, String.reduceBEq, Bool.or_true, Bool.or_false, Bool.true_or, Bool.false_or, Bool.not_true, Bool.not_false, beq_self_eq_true, Nat.sub_self, Nat.add_one_sub_one]
  exact ⟨v, 4, 0, 20, rfl, hp, by decide, hq⟩

theorem fv_check_body (F : FnP K "check_body" S_check_body f fd) (hm : mg "check_body" = some (.ref f)) (B : Blt mg) (g_is_body : FnV P w K mg base 3 "is_body" ["value"] [] (sp_is_body)) (x_InvalidBody : ExcV K mg "InvalidBody" (ec "InvalidBody")) : FnV P w K mg base 4 "check_body" ["body"] [] (sp_check_body ec) := by
  refine fnV_mk F (fn_ok F sc_check_body _ (fun tw ds Q E h => by obtain ⟨v, rfl, _⟩ := h; rfl) fun cdv A outer s H E tw hr tk po => ⟨_, (vss_one (vs_if (vt_not (vt_val (ve_call (g_is_body.mono (by decide)) hr tk rfl (va_cons (vv 0) va_nil)))) (vss_one (vs_raise rfl tk rfl x_InvalidBody)) vss_nil)), fun ds Qd Ed h => ?_⟩) hm (fun _ _ _ _ _ _ us hl => match us, hl with | [_], _ => rfl) (fun n hn => absurd hn (List.not_mem_nil))
  obtain ⟨v, rfl, hp, hq⟩ := h
  simp only [dSeq, dNext, dBreak, dCont, dDrop, dRet, dRetN, dIf, dSet, dOwn, dMove, dAppend, dExtend, dFor, dForL, dUnp, dPar, dParGo, stD, dTgt, setAll, dVar, dC, dOp, dTest, dChain, dAnd, dOr, dNot, dAndV, dOrV, dNotV, dIfE, dTup, dLst, dats, dCons, dNil, dCB, gLen, gIsi, isTy, gAll, gAny, gAbs, gMax2, gMin2, gList, gTuple, gIx, gAddP, gMulP, gPow, gSub, gMod, gDiv, gLt, gLe, gGt, gGe, gI, gIc, gEq, gNe, gInP, gIs, gIsNot, isN, AV.val, AV.dat, AV.any, dCall, dCallK, vals, dLc, dLcL, dLenSet, dSl, dNo, dSome, dListRg, dCount, dRange, dZip, dSeqI, dSeqJ, dRaise, dYes, endsOf, startD, noOwn, wipeD, List.map_cons, List.map_nil, List.length_cons, List.length_nil, List.replicate_succ, List.replicate_zero, List.cons_append, List.nil_append, List.append_nil, Nat.reduceAdd, Nat.reduceSub, Nat.reduceLeDiff, Nat.le_refl, List.getElem?_cons_succ, List.getElem?_cons_zero, List.set_cons_succ, List.set_cons_zero, List.all_cons, List.all_nil, Bool.and_true, Bool.true_and, true_and, and_true, if_true, ite_true, ite_false, reduceIte, reduceCtorEq, Bool.false_eq_true, Nat.zero_add, Nat.zero_le, Nat.sub_zero, String.reduceEq, String.reduceBEq, Bool.or_true, Bool.or_false, Bool.true_or, Bool.false_or, Bool.not_true, Bool.not_false, beq_self_eq_true, Nat.sub_self, Nat.add_one_sub_one]
  refine ⟨v, rfl, hp, ?_⟩
  cases hb : bodyOk v with
  | true => rw [hb] at hq; exact hq
  | false => rw [hb] at hq; exact hq

theorem fv_check_both (F : FnP K "check_both" S_check_both f fd) (hm : mg "check_both" = some (.ref f)) (B : Blt mg) (g_check_rock : FnV P w K mg base 5 "check_rock" ["rock"] [] (sp_check_rock ec)) (g_check_body : FnV P w K mg base 4 "check_body" ["body"] [] (sp_check_body ec)) : FnV P w K mg base 6 "check_both" ["rock", "body"] [] (sp_check_both ec) := by
  refine fnV_mk F (fn_ok F sc_check_both _ (fun tw ds Q E h => by obtain ⟨v, u, rfl, _⟩ := h; rfl) fun cdv A outer s H E tw hr tk po => ⟨_, (vss_cons (vs_expr (ve_call (g_check_rock.mono (by decide)) hr tk rfl (va_cons (vv 0) va_nil)))
    (vss_one (vs_expr (ve_call (g_check_body.mono (by decide)) hr tk rfl (va_cons (vv 1) va_nil))))), fun ds Qd Ed h => ?_⟩) hm (fun _ _ _ _ _ _ us hl => match us, hl with | [_, _], _ => rfl) (fun n hn => absurd hn (List.not_mem_nil))
  obtain ⟨v, u, rfl, hp, hp2, hq⟩ := h
  simp only [dSeq, dNext, dBreak, dCont, dDrop, dRet, dRetN, dIf, dSet, dOwn, dMove, dAppend, dExtend, dFor, dForL, dUnp, dPar, dParGo, stD, dTgt, setAll, dVar, dC, dOp, dTest, dChain, dAnd, dOr, dNot, dAndV, dOrV, dNotV, dIfE, dTup, dLst, dats, dCons, dNil, dCB, gLen, gIsi, isTy, gAll, gAny, gAbs, gMax2, gMin2, gList, gTuple, gIx, gAddP, gMulP, gPow, gSub, gMod, gDiv, gLt, gLe, gGt, gGe, gI, gIc, gEq, gNe, gInP, gIs, gIsNot, isN, AV.val, AV.dat, AV.any, dCall, dCallK, vals, dLc, dLcL, dLenSet, dSl, dNo, dSome, dListRg, dCount, dRange, dZip, dSeqI, dSeqJ, dRaise, dYes, endsOf, startD, noOwn, wipeD, List.map_cons, List.map_nil, List.length_cons, List.length_nil, List.replicate_succ, List.replicate_zero, List.cons_append, List.nil_append, List.append_nil, Nat.reduceAdd, Nat.reduceSub, Nat.reduceLeDiff, Nat.le_refl, List.getElem?_cons_succ, List.getElem?_cons_zero, List.set_cons_succ, List.set_cons_zero, List.all_cons, List.all_nil, Bool.and_true, Bool.true_and, true_and, and_true, if_true, ite_true, ite_false, reduceIte, reduceCtorEq, Bool.false_eq_true, Nat.zero_add, Nat.zero_le, Nat.sub_zero, String.reduceEq, String.reduceBEq, Bool.or_true, Bool.or_false, Bool.true_or, Bool.false_or, Bool.not_true, Bool.not_false, beq_self_eq_true, Nat.sub_self, Nat.add_one_sub_one]
  refine ⟨v, rfl, hp, ?_⟩
  cases hb : rockOk v with
  | true =>
    rw [hb, if_pos rfl] at hq
    rw [if_pos rfl]
    exact ⟨u, rfl, hp2, hq⟩
  | false =>
    rw [hb] at hq
    exact hq

theorem fv_apart_by (F : FnP K "apart_by" S_apart_by f fd) (hm : mg "apart_by" = some (.ref f)) (B : Blt mg)  : FnV P w K mg base 1 "apart_by" ["rock", "one", "other"] [] (sp_apart_by) := by
  refine fnV_mk F (fn_ok F sc_apart_by _ (fun tw ds Q E h => by obtain ⟨r, i, j, rfl, _⟩ := h; rfl) fun cdv A outer s H E tw hr tk po => ⟨_, (vss_one (vs_ret (ve_max2 B rfl rfl (va_cons (ve_abs B rfl (va_cons (ve_sub (ve_ix (ve_ix (vv 0) (vv 1)) ve_int) (ve_ix (ve_ix (vv 0) (vv 2)) ve_int)) va_nil)) (va_cons (ve_abs B rfl (va_cons (ve_sub (ve_ix (ve_ix (vv 0) (vv 1)) ve_int) (ve_ix (ve_ix (vv 0) (vv 2)) ve_int)) va_nil)) va_nil))))), fun ds Qd Ed h => ?_⟩) hm (fun _ _ _ _ _ _ us hl => match us, hl with | [_, _, _], _ => rfl) (fun n hn => absurd hn (List.not_mem_nil))
  obtain ⟨r, i, j, rfl, hi, hj, hq⟩ := h
  refine at_start (Γ := [SV.d _, SV.d _, SV.d _]) rfl ?_
  walk_at "rd0"
  exact hq

theorem fv_have_room (F : FnP K "have_room" S_have_room f fd) (hm : mg "have_room" = some (.ref f)) (B : Blt mg)  : FnV P w K mg base 1 "have_room" ["rock", "stance"] [] (sp_have_room) := by
  refine fnV_mk F (fn_ok F sc_have_room _ (fun tw ds Q E h => by obtain ⟨r, s, rfl, _⟩ := h; rfl) fun cdv A outer s H E tw hr tk po => ⟨_, (vss_one (vs_ret (ve_all B rfl rfl (va_cons (ve_lc rfl sc_have_room.nd (own := [("hold", 2)]) (T := (.one 2)) (blkOk_by (N := N_have_room) (sc := defScope S_have_room) (by decide +kernel)) (by decide) (vj_seq (vv 1)) fun s H C cl fp => ⟨(vg_one sc_have_room.nd (i := 2) rfl (by first | exact .inl rfl | exact .inr rfl)), vts_nil, (ve_le (ve_count hr (vv 1) (vv 2)) (ve_ix (ve_ix (vv 0) (vv 2)) ve_int))⟩) va_nil)))), fun ds Qd Ed h => ?_⟩) hm (fun _ _ _ _ _ _ us hl => match us, hl with | [_, _], _ => rfl) (fun n hn => absurd hn (List.not_mem_nil))
  obtain ⟨r, s, rfl, hl, hs, hq⟩ := h
  refine at_start (Γ := [SV.d _, SV.d _, SV.un]) rfl ?_
  walk_at "rd0"
  refine lc_mapE (f := fun i => .bool (decide (((s.countP fun z => decide (z = i) : Nat) : Int) ≤ (hd r i).2.2))) (fun i hi => ⟨_, rfl, fun R hR => ?_⟩) (by omega) ?_
  · have hi' := hs i hi
    walk_at "rd0"
    refine r_cnt2 rfl (plain_ints s) rfl (depth_ints s i) ?_
    rw [countP_ints]
    walk_at "rd0"
    exact hR
  · walk_at "rd0"
    refine r_all rfl (boolsD_map _ _) ?_
    rw [List.all_map]
    exact hq

theorem fv_are_sorted (F : FnP K "are_sorted" S_are_sorted f fd) (hm : mg "are_sorted" = some (.ref f)) (B : Blt mg)  : FnV P w K mg base 1 "are_sorted" ["rock", "left", "right", "cross"] [] (sp_are_sorted) := by
  refine fnV_mk F (fn_ok F sc_are_sorted _ (fun tw ds Q E h => by obtain ⟨r, i, j, c, rfl, _⟩ := h; rfl) fun cdv A outer s H E tw hr tk po => ⟨_, (vss_one (vs_ret (ve_le (ve_ix (ve_ix (vv 0) (vv 1)) ve_int) (ve_addP (ve_ix (ve_ix (vv 0) (vv 2)) ve_int) (vv 3))))), fun ds Qd Ed h => ?_⟩) hm (fun _ _ _ _ _ _ us hl => match us, hl with | [_, _, _, _], _ => rfl) (fun n hn => absurd hn (List.not_mem_nil))
  obtain ⟨r, i, j, c, rfl, hi, hj, hq⟩ := h
  refine at_start (Γ := [SV.d _, SV.d _, SV.d _, SV.d _]) rfl ?_
  walk_at "rd0"
  exact hq

theorem fv_is_kept (F : FnP K "is_kept" S_is_kept f fd) (hm : mg "is_kept" = some (.ref f)) (B : Blt mg) (g_apart_by : FnV P w K mg base 1 "apart_by" ["rock", "one", "other"] [] (sp_apart_by)) (g_have_room : FnV P w K mg base 1 "have_room" ["rock", "stance"] [] (sp_have_room)) (g_are_sorted : FnV P w K mg base 1 "are_sorted" ["rock", "left", "right", "cross"] [] (sp_are_sorted)) : FnV P w K mg base 2 "is_kept" ["rock", "body", "stance"] [] (sp_is_kept) := by
  refine fnV_mk F (fn_ok F sc_is_kept _ (fun tw ds Q E h => by obtain ⟨r, b, i, j, k, l, rfl, _⟩ := h; rfl) fun cdv A outer s H E tw hr tk po => ⟨_, (vss_cons (vs_unp (T := (.many [3, 4, 5, 6])) (vv 2) (vg_many (is := [3, 4, 5, 6]) rfl (pgs_cons (pg_name sc_is_kept.nd (i := 3) rfl (by first | exact .inl rfl | exact .inr rfl) (by first | exact .inl rfl | exact .inr rfl)) (pgs_cons (pg_name sc_is_kept.nd (i := 4) rfl (by first | exact .inl rfl | exact .inr rfl) (by first | exact .inl rfl | exact .inr rfl)) (pgs_cons (pg_name sc_is_kept.nd (i := 5) rfl (by first | exact .inl rfl | exact .inr rfl) (by first | exact .inl rfl | exact .inr rfl)) (pgs_cons (pg_name sc_is_kept.nd (i := 6) rfl (by first | exact .inl rfl | exact .inr rfl) (by first | exact .inl rfl | exact .inr rfl)) pgs_nil))))))
    (vss_cons (vs_unp (T := (.many [7, 8, 9, 10])) (vv 1) (vg_many (is := [7, 8, 9, 10]) rfl (pgs_cons (pg_name sc_is_kept.nd (i := 7) rfl (by first | exact .inl rfl | exact .inr rfl) (by first | exact .inl rfl | exact .inr rfl)) (pgs_cons (pg_name sc_is_kept.nd (i := 8) rfl (by first | exact .inl rfl | exact .inr rfl) (by first | exact .inl rfl | exact .inr rfl)) (pgs_cons (pg_name sc_is_kept.nd (i := 9) rfl (by first | exact .inl rfl | exact .inr rfl) (by first | exact .inl rfl | exact .inr rfl)) (pgs_cons (pg_name sc_is_kept.nd (i := 10) rfl (by first | exact .inl rfl | exact .inr rfl) (by first | exact .inl rfl | exact .inr rfl)) pgs_nil))))))
    (vss_cons (vs_if (PW.pt (vw_or (vt_not (vt_val (ve_call (g_have_room.mono (by decide)) hr tk rfl (va_cons (vv 0) (va_cons (vv 2) va_nil))))) (vw_or (vt_gt (ve_call (g_apart_by.mono (by decide)) hr tk rfl (va_cons (vv 0) (va_cons (vv 3) (va_cons (vv 4) va_nil)))) (vv 7)) (vw_or1 (vt_gt (ve_call (g_apart_by.mono (by decide)) hr tk rfl (va_cons (vv 0) (va_cons (vv 5) (va_cons (vv 6) va_nil)))) (vv 8)))))) (vss_one (vs_ret ve_bl)) vss_nil)
    (vss_cons (vs_for (T := (.one 11)) po rfl (vi_seq (ve_tup (va_cons (vv 3) (va_cons (vv 4) va_nil)))) (vg_one sc_is_kept.nd (i := 11) rfl (by first | exact .inl rfl | exact .inr rfl)) (vss_one (vs_for (T := (.one 12)) po rfl (vi_seq (ve_tup (va_cons (vv 5) (va_cons (vv 6) va_nil)))) (vg_one sc_is_kept.nd (i := 12) rfl (by first | exact .inl rfl | exact .inr rfl)) (vss_one (vs_if (PW.pt (vw_or (vt_gt (ve_call (g_apart_by.mono (by decide)) hr tk rfl (va_cons (vv 0) (va_cons (vv 11) (va_cons (vv 12) va_nil)))) (vv 9)) (vw_or1 (vt_gt (ve_ix (ve_ix (vv 0) (vv 12)) ve_int) (ve_ix (ve_ix (vv 0) (vv 11)) ve_int))))) (vss_one (vs_ret ve_bl)) vss_nil)))))
    (vss_one (vs_ret (ve_and (ve_call (g_are_sorted.mono (by decide)) hr tk rfl (va_cons (vv 0) (va_cons (vv 3) (va_cons (vv 4) (va_cons (vv 10) va_nil))))) (ve_one (ve_call (g_are_sorted.mono (by decide)) hr tk rfl (va_cons (vv 0) (va_cons (vv 5) (va_cons (vv 6) (va_cons (vv 10) va_nil))))))))))))), fun ds Qd Ed h => ?_⟩) hm (fun _ _ _ _ _ _ us hl => match us, hl with | [_, _, _], _ => rfl) (fun n hn => absurd hn (List.not_mem_nil))
  obtain ⟨r, b, i, j, k, l, rfl, hi, hj, hk, hl, hq⟩ := h
  refine at_start (Γ := [SV.d _, SV.d _, SV.d _, SV.un, SV.un, SV.un, SV.un, SV.un, SV.un, SV.un, SV.un, SV.un, SV.un]) rfl ?_
  walk_at "rd0"
  refine ⟨r, [i, j, k, l], rfl, (by show 4 ≤ 1000; decide), ?_, ?_⟩
  · intro z hz
    simp only [List.mem_cons, List.not_mem_nil, or_false] at hz
    rcases hz with rfl | rfl | rfl | rfl <;> assumption
  unfold kept at hq
  cases h1 : roomOk r [i, j, k, l] with
  | false => walk_at "rd0"; rw [h1] at hq; exact hq
  | true =>
  rw [h1, Bool.not_true, Bool.false_or] at hq
  walk_at "rd0"
  refine ⟨r, i, j, rfl, hi, hj, ?_⟩
  walk_at "rd0"
  cases h2 : decide (b.1 < apI r i j) with
  | true => walk_at "rd0"; rw [h2] at hq; exact hq
  | false =>
  rw [h2, Bool.false_or] at hq
  walk_at "rd0"
  refine ⟨r, k, l, rfl, hk, hl, ?_⟩
  walk_at "rd0"
  cases h3 : decide (b.2.1 < apI r k l) with
  | true => walk_at "rd0"; rw [h3] at hq; exact hq
  | false =>
  rw [h3, Bool.not_false, Bool.true_and] at hq
  walk_at "rd0"
  unfold farB at hq
  refine ⟨r, i, k, rfl, hi, hk, ?_⟩
  walk_at "rd0"
  cases e1ik : decide (b.2.2.1 < apI r i k) with
  | true => walk_at "rd0"; rw [e1ik] at hq; exact hq
  | false =>
  rw [e1ik, Bool.false_or] at hq
  walk_at "rd0"
  cases e2ik : decide ((hd r i).2.1 < (hd r k).2.1) with
  | true => walk_at "rd0"; rw [e2ik] at hq; exact hq
  | false =>
  rw [e2ik, Bool.not_false, Bool.true_and] at hq
  walk_at "rd0"
  refine ⟨r, i, l, rfl, hi, hl, ?_⟩
  walk_at "rd0"
  cases e1il : decide (b.2.2.1 < apI r i l) with
  | true => walk_at "rd0"; rw [e1il] at hq; exact hq
  | false =>
  rw [e1il, Bool.false_or] at hq
  walk_at "rd0"
  cases e2il : decide ((hd r i).2.1 < (hd r l).2.1) with
  | true => walk_at "rd0"; rw [e2il] at hq; exact hq
  | false =>
  rw [e2il, Bool.not_false, Bool.true_and] at hq
  walk_at "rd0"
  refine ⟨r, j, k, rfl, hj, hk, ?_⟩
  walk_at "rd0"
  cases e1jk : decide (b.2.2.1 < apI r j k) with
  | true => walk_at "rd0"; rw [e1jk] at hq; exact hq
  | false =>
  rw [e1jk, Bool.false_or] at hq
  walk_at "rd0"
  cases e2jk : decide ((hd r j).2.1 < (hd r k).2.1) with
  | true => walk_at "rd0"; rw [e2jk] at hq; exact hq
  | false =>
  rw [e2jk, Bool.not_false, Bool.true_and] at hq
  walk_at "rd0"
  refine ⟨r, j, l, rfl, hj, hl, ?_⟩
  walk_at "rd0"
  cases e1jl : decide (b.2.2.1 < apI r j l) with
  | true => walk_at "rd0"; rw [e1jl] at hq; exact hq
  | false =>
  rw [e1jl, Bool.false_or] at hq
  walk_at "rd0"
  cases e2jl : decide ((hd r j).2.1 < (hd r l).2.1) with
  | true => walk_at "rd0"; rw [e2jl] at hq; exact hq
  | false =>
  rw [e2jl, Bool.not_false, Bool.true_and] at hq
  walk_at "rd0"
  refine ⟨r, i, j, _, rfl, hi, hj, ?_⟩
  walk_at "rd0"
  cases e3 : sorted2 r i j b.2.2.2 with
  | false => walk_at "rd0"; rw [e3] at hq; exact hq
  | true =>
  rw [e3, Bool.true_and] at hq
  walk_at "rd0"
  exact ⟨r, k, l, _, rfl, hk, hl, hq⟩

theorem fv_is_good_one (F : FnP K "is_good_one" S_is_good_one f fd) (hm : mg "is_good_one" = some (.ref f)) (B : Blt mg) (g_is_kept : FnV P w K mg base 2 "is_kept" ["rock", "body", "stance"] [] (sp_is_kept)) (g_are_between : FnV P w K mg base 2 "are_between" ["value", "many", "low", "high"] [] (sp_are_between)) : FnV P w K mg base 3 "is_good_one" ["rock", "body", "value"] [] (sp_is_good_one) := by
  refine fnV_mk F (fn_ok F sc_is_good_one _ (fun tw ds Q E h => by obtain ⟨r, b, v, rfl, _⟩ := h; rfl) fun cdv A outer s H E tw hr tk po => ⟨_, (vss_one (vs_ret (ve_and (ve_call (g_are_between.mono (by decide)) hr tk rfl (va_cons (vv 2) (va_cons ve_int (va_cons ve_int (va_cons (ve_sub (ve_len B rfl (va_cons (vv 0) va_nil)) ve_int) va_nil))))) (ve_one (ve_call (g_is_kept.mono (by decide)) hr tk rfl (va_cons (vv 0) (va_cons (vv 1) (va_cons (vv 2) va_nil)))))))), fun ds Qd Ed h => ?_⟩) hm (fun _ _ _ _ _ _ us hl => match us, hl with | [_, _, _], _ => rfl) (fun n hn => absurd hn (List.not_mem_nil))
  obtain ⟨r, b, v, rfl, hp, hq⟩ := h
  refine at_start (Γ := [SV.d _, SV.d _, SV.d _]) rfl ?_
  walk_at "rd0"
  refine ⟨v, 4, 0, (r.map eH).length - 1, rfl, hp, by decide, ?_⟩
  rw [List.length_map]
  cases hb : areBtw v 4 0 (r.length - 1) with
  | false =>
    have e : goodOne r b v = false := by unfold goodOne; rw [hb]; rfl
    rw [e] at hq
    walk_at "rd0"
    exact hq
  | true =>
    obtain ⟨is, rfl, h1, h2⟩ := areBtw_is hb
    match is, h1, h2 with
    | [i, j, k, l], _, h2 =>
      have e : goodOne r b (.tuple ([i, j, k, l].map .int)) = kept r b i j k l := by unfold goodOne; rw [hb]; rfl
      rw [e] at hq
      have g : ∀ z ∈ [i, j, k, l], InR r z := fun z hz => by
        have := h2 z hz
        exact ⟨this.1, by omega⟩
      walk_at "rd0"
      exact ⟨r, b, i, j, k, l, rfl, g i (by simp), g j (by simp), g k (by simp), g l (by simp), hq⟩

theorem fv_check_stance (F : FnP K "check_stance" S_check_stance f fd) (hm : mg "check_stance" = some (.ref f)) (B : Blt mg) (g_is_good_one : FnV P w K mg base 3 "is_good_one" ["rock", "body", "value"] [] (sp_is_good_one)) (x_InvalidStance : ExcV K mg "InvalidStance" (ec "InvalidStance")) : FnV P w K mg base 4 "check_stance" ["rock", "body", "stance"] [] (sp_check_stance ec) := by
  refine fnV_mk F (fn_ok F sc_check_stance _ (fun tw ds Q E h => by obtain ⟨r, b, x, rfl, _⟩ := h; rfl) fun cdv A outer s H E tw hr tk po => ⟨_, (vss_one (vs_if (vt_not (vt_val (ve_call (g_is_good_one.mono (by decide)) hr tk rfl (va_cons (vv 0) (va_cons (vv 1) (va_cons (vv 2) va_nil)))))) (vss_one (vs_raise rfl tk rfl x_InvalidStance)) vss_nil)), fun ds Qd Ed h => ?_⟩) hm (fun _ _ _ _ _ _ us hl => match us, hl with | [_, _, _], _ => rfl) (fun n hn => absurd hn (List.not_mem_nil))
  obtain ⟨r, b, x, rfl, hx, hq⟩ := h
  refine at_start (Γ := [SV.d _, SV.d _, SV.d _]) rfl ?_
  walk_at "rd0"
  refine ⟨r, b, x, rfl, hx, ?_⟩
  unfold CkS at hq
  cases hb : goodOne r b x with
  | true =>
    rw [hb, if_pos rfl] at hq
    obtain ⟨s, rfl, hs⟩ := goodOne_is hb
    walk_at "rd0"
    exact hq s rfl hs
  | false => rw [hb] at hq; walk_at "rd0"; exact hq

theorem fv_check_all (F : FnP K "check_all" S_check_all f fd) (hm : mg "check_all" = some (.ref f)) (B : Blt mg) (g_check_both : FnV P w K mg base 6 "check_both" ["rock", "body"] [] (sp_check_both ec)) (g_check_stance : FnV P w K mg base 4 "check_stance" ["rock", "body", "stance"] [] (sp_check_stance ec)) : FnV P w K mg base 7 "check_all" ["rock", "body", "stance"] [] (sp_check_all ec) := by
  refine fnV_mk F (fn_ok F sc_check_all _ (fun tw ds Q E h => by obtain ⟨u, v, x, rfl, _⟩ := h; rfl) fun cdv A outer s H E tw hr tk po => ⟨_, (vss_cons (vs_expr (ve_call (g_check_both.mono (by decide)) hr tk rfl (va_cons (vv 0) (va_cons (vv 1) va_nil))))
    (vss_one (vs_expr (ve_call (g_check_stance.mono (by decide)) hr tk rfl (va_cons (vv 0) (va_cons (vv 1) (va_cons (vv 2) va_nil))))))), fun ds Qd Ed h => ?_⟩) hm (fun _ _ _ _ _ _ us hl => match us, hl with | [_, _, _], _ => rfl) (fun n hn => absurd hn (List.not_mem_nil))
  obtain ⟨u, v, x, rfl, hu, hv, hx, hq⟩ := h
  refine at_start (Γ := [SV.d _, SV.d _, SV.d _]) rfl ?_
  walk_at "rd0"
  refine ckB_both hu hv (ckB_mono hq fun r b e1 e2 hr hb h => ?_)
  subst e1
  subst e2
  walk_at "rd0"
  exact ⟨r, b, x, rfl, hx, h⟩

theorem fv_check_hold (F : FnP K "check_hold" S_check_hold f fd) (hm : mg "check_hold" = some (.ref f)) (B : Blt mg) (g_is_between : FnV P w K mg base 1 "is_between" ["value", "low", "high"] [] (sp_is_between)) (x_InvalidHold : ExcV K mg "InvalidHold" (ec "InvalidHold")) : FnV P w K mg base 2 "check_hold" ["rock", "hold"] [] (sp_check_hold ec) := by
  refine fnV_mk F (fn_ok F sc_check_hold _ (fun tw ds Q E h => by obtain ⟨r, x, rfl, _⟩ := h; rfl) fun cdv A outer s H E tw hr tk po => ⟨_, (vss_one (vs_if (vt_not (vt_val (ve_call (g_is_between.mono (by decide)) hr tk rfl (va_cons (vv 1) (va_cons ve_int (va_cons (ve_sub (ve_len B rfl (va_cons (vv 0) va_nil)) ve_int) va_nil)))))) (vss_one (vs_raise rfl tk rfl x_InvalidHold)) vss_nil)), fun ds Qd Ed h => ?_⟩) hm (fun _ _ _ _ _ _ us hl => match us, hl with | [_, _], _ => rfl) (fun n hn => absurd hn (List.not_mem_nil))
  obtain ⟨r, x, rfl, hx, hq⟩ := h
  refine at_start (Γ := [SV.d _, SV.d _]) rfl ?_
  walk_at "rd0"
  refine ⟨x, 0, (r.map eH).length - 1, rfl, hx, ?_⟩
  rw [List.length_map]
  unfold CkH at hq
  cases hb : btw x 0 (r.length - 1) with
  | true =>
    rw [hb, if_pos rfl] at hq
    obtain ⟨i, rfl, h0, h1⟩ := btw_is hb
    walk_at "rd0"
    exact hq i rfl ⟨h0, by omega⟩
  | false => rw [hb] at hq; walk_at "rd0"; exact hq

theorem fv_check_top (F : FnP K "check_top" S_check_top f fd) (hm : mg "check_top" = some (.ref f)) (B : Blt mg) (g_check_all : FnV P w K mg base 7 "check_all" ["rock", "body", "stance"] [] (sp_check_all ec)) (g_check_hold : FnV P w K mg base 2 "check_hold" ["rock", "hold"] [] (sp_check_hold ec)) : FnV P w K mg base 8 "check_top" ["rock", "body", "start", "top"] [] (sp_check_top ec) := by
  refine fnV_mk F (fn_ok F sc_check_top _ (fun tw ds Q E h => by obtain ⟨u, v, x, y, rfl, _⟩ := h; rfl) fun cdv A outer s H E tw hr tk po => ⟨_, (vss_cons (vs_expr (ve_call (g_check_all.mono (by decide)) hr tk rfl (va_cons (vv 0) (va_cons (vv 1) (va_cons (vv 2) va_nil)))))
    (vss_one (vs_expr (ve_call (g_check_hold.mono (by decide)) hr tk rfl (va_cons (vv 0) (va_cons (vv 3) va_nil)))))), fun ds Qd Ed h => ?_⟩) hm (fun _ _ _ _ _ _ us hl => match us, hl with | [_, _, _, _], _ => rfl) (fun n hn => absurd hn (List.not_mem_nil))
  obtain ⟨u, v, x, y, rfl, hu, hv, hx, hy, hq⟩ := h
  refine at_start (Γ := [SV.d _, SV.d _, SV.d _, SV.d _]) rfl ?_
  walk_at "rd0"
  refine ⟨u, v, x, rfl, hu, hv, hx, ckB_mono hq fun r b e1 e2 hr hb h1 => ckS_mono h1 fun s e3 hs h2 => ?_⟩
  subst e1
  walk_at "rd0"
  exact ⟨r, y, rfl, hy, h2⟩

theorem fv_changed (F : FnP K "changed" S_changed f fd) (hm : mg "changed" = some (.ref f)) (B : Blt mg)  : FnV P w K mg base 1 "changed" ["stance", "limb", "hold"] [] (sp_changed) := by
  refine fnV_mk F (fn_ok F sc_changed _ (fun tw ds Q E h => by obtain ⟨s, l, x, rfl, _⟩ := h; rfl) fun cdv A outer s H E tw hr tk po => ⟨_, (vss_one (vs_ret (ve_addP (ve_addP (ve_slice (vv 0) vo_none (vo_some (vv 1))) (ve_tup (va_cons (vv 2) va_nil))) (ve_slice (vv 0) (vo_some (ve_addP (vv 1) ve_int)) vo_none)))), fun ds Qd Ed h => ?_⟩) hm (fun _ _ _ _ _ _ us hl => match us, hl with | [_, _, _], _ => rfl) (fun n hn => absurd hn (List.not_mem_nil))
  obtain ⟨s, l, x, rfl, hs, hl, hq⟩ := h
  match s, hs with
  | [i, j, k, m], _ =>
    match l, hl with
    | 0, _ =>
      refine at_start (Γ := [SV.d _, SV.d _, SV.d _]) rfl ?_
      walk_at "rd0"
      exact hq
    | 1, _ =>
      refine at_start (Γ := [SV.d _, SV.d _, SV.d _]) rfl ?_
      walk_at "rd0"
      exact hq
    | 2, _ =>
      refine at_start (Γ := [SV.d _, SV.d _, SV.d _]) rfl ?_
      walk_at "rd0"
      exact hq
    | 3, _ =>
      refine at_start (Γ := [SV.d _, SV.d _, SV.d _]) rfl ?_
      walk_at "rd0"
      exact hq

theorem fv_next_stances (F : FnP K "next_stances" S_next_stances f fd) (hm : mg "next_stances" = some (.ref f)) (B : Blt mg) (g_changed : FnV P w K mg base 1 "changed" ["stance", "limb", "hold"] [] (sp_changed)) (g_is_kept : FnV P w K mg base 2 "is_kept" ["rock", "body", "stance"] [] (sp_is_kept)) : FnV P w K mg base 3 "next_stances" ["rock", "body", "stance"] [] (sp_next_stances) := by
  refine fnV_mk F (fn_ok F sc_next_stances _ (fun tw ds Q E h => by obtain ⟨r, b, s, rfl, _⟩ := h; rfl) fun cdv A outer s H E tw hr tk po => ⟨_, (vss_cons (vs_own (i := 3) sc_next_stances.nd rfl (by first | exact .inl rfl | exact .inr rfl) (ve_lst va_nil))
    (vss_cons (vs_for (T := (.one 4)) po rfl (vi_range B rfl (va_cons ve_int va_nil)) (vg_one sc_next_stances.nd (i := 4) rfl (by first | exact .inl rfl | exact .inr rfl)) (vss_cons (vs_setLc (i := 5) rfl sc_next_stances.nd rfl rfl (own := [("hold", 6)]) (T := (.one 6)) (blkOk_by (N := N_next_stances) (sc := defScope S_next_stances) (by decide +kernel)) (by decide) (VI.vj (vi_range B rfl (va_cons (ve_len B rfl (va_cons (vv 0) va_nil)) va_nil))) fun s H C cl fp => ⟨(vg_one sc_next_stances.nd (i := 6) rfl (by first | exact .inl rfl | exact .inr rfl)), (vts_one (vt_ne hr (vv 6) (ve_ix (vv 2) (vv 4)))), (ve_call (g_changed.mono (by decide)) hr takes0 rfl (va_cons (vv 2) (va_cons (vv 4) (va_cons (vv 6) va_nil))))⟩)
    (vss_one (vs_extend (i := 3) (pv 3) (ve_lc rfl sc_next_stances.nd (own := [("row", 7)]) (T := (.one 7)) (blkOk_by (N := N_next_stances) (sc := defScope S_next_stances) (by decide +kernel)) (by decide) (vj_seq (vv 5)) fun s H C cl fp => ⟨(vg_one sc_next_stances.nd (i := 7) rfl (by first | exact .inl rfl | exact .inr rfl)), (vts_one (vt_val (ve_call (g_is_kept.mono (by decide)) hr takes0 rfl (va_cons (vv 0) (va_cons (vv 1) (va_cons (vv 7) va_nil)))))), (vv 7)⟩)))))
    (vss_one (vs_ret (ve_sortA B rfl hr rfl (va_cons (vv 3) va_nil)))))), fun ds Qd Ed h => ?_⟩) hm (fun _ _ _ _ _ _ us hl => match us, hl with | [_, _, _], _ => rfl) (fun n hn => absurd hn (List.not_mem_nil))
  obtain ⟨r, b, s, rfl, hl, hs, hq⟩ := h
  obtain ⟨hs1, hs2, _⟩ := mem_good.mp hs
  refine at_start (Γ := [SV.d _, SV.d _, SV.d _, SV.un, SV.un, SV.un, SV.un, SV.un]) rfl ?_
  walk_at "rdn"
  have few : ∀ limb, ((nx1 r.length s limb).filter (keptL r b)).length ≤ 7 := fun limb => by
    refine Nat.le_trans (List.length_filter_le _ _) ?_
    unfold nx1
    rw [List.length_map]
    refine Nat.le_trans (List.length_filter_le _ _) ?_
    rw [List.length_map, List.length_range]
    exact hl
  refine for_acc (S := fun acc Γ => ∃ a c : Option D, Γ = [.d (.p (eR r)), .d (.p (eB b)), .d (.p (eS s)), .o (.p (.list acc)), sd a, sd c, .un, .un]) (enc := fun (i : Nat) => PyData.int i) (g := fun i => ((nx1 r.length s i).filter (keptL r b)).map eS) (as := List.range 4) (acc := []) ⟨none, none, rfl⟩ ?_ (fun i hi acc Γ hS hn => ?_) fun Γ hS => ?_
  · have := flat_le (l := List.range 4) (f := fun i => ((nx1 r.length s i).filter (keptL r b)).map eS) (m := 7) fun i _ => by rw [List.length_map]; exact few i
    rw [List.nil_append]
    have e : (List.range 4).length = 4 := rfl
    omega
  · obtain ⟨a, c, rfl⟩ := hS
    have hi4 := List.mem_range.mp hi
    refine ⟨_, rfl, fun N hN => ?_⟩
    walk_at "rdn"
    refine r_rngv (by omega) (by rw [List.length_map]; omega) ?_
    rw [List.length_map, Int.toNat_natCast]
    have el : (List.range r.length).map (fun (i : Nat) => PyData.int i) = ((List.range r.length).map fun (i : Nat) => (i : Int)).map PyData.int := by rw [List.map_map]; rfl
    rw [el]
    refine lc_filter0 (enc := PyData.int) (p := fun h => !decide (h = s.getD i 0)) (f := fun h => eS (s.set i h)) (fun h hh => ⟨_, rfl, fun Q hQ => ?_, fun _ R hR => ?_⟩) (by rw [List.length_map, List.length_range]; omega) ?_
    · walk_at "rd0"
      refine r_ixT rfl (p := .int (s.getD i 0)) (atI_nat (Int.natCast_nonneg i) ?_) ?_
      · rw [Int.toNat_natCast, List.getElem?_map, List.getD_eq_getElem?_getD, List.getElem?_eq_getElem (by omega)]
        rfl
      · walk_at "rd0"
        exact hQ
    · walk_at "rd0"
      exact ⟨s, i, h, rfl, hs1, hi4, hR⟩
    · walk_at "rd0"
      refine r_ext rfl ?_
      walk_at "rd0"
      have ec2 : ((((List.range r.length).map fun (i : Nat) => (i : Int)).filter fun h => !decide (h = s.getD i 0)).map fun h => eS (s.set i h)) = (nx1 r.length s i).map eS := by unfold nx1; rw [List.map_map]; rfl
      rw [ec2]
      refine lc_filter0 (enc := eS) (p := keptL r b) (f := eS) (fun t ht => ⟨_, rfl, fun Q hQ => ?_, fun _ R hR => ?_⟩) ?_ ?_
      · walk_at "rd0"
        obtain ⟨h, h0, h1, _, rfl⟩ := mem_nx1.mp ht
        have g4 : (s.set i h).length = 4 := by rw [List.length_set]; exact hs1
        have gr : ∀ z ∈ s.set i h, InR r z := fun z hz => by
          rcases List.mem_or_eq_of_mem_set hz with hz | hz
          · exact hs2 z hz
          · rw [hz]
            exact ⟨h0, h1⟩
        revert hQ g4 gr
        generalize s.set i h = t
        intro hQ g4 gr
        match t, g4 with
        | [i, j, k, l], _ => exact ⟨r, b, i, j, k, l, rfl, gr i (by simp), gr j (by simp), gr k (by simp), gr l (by simp), hQ⟩
      · walk_at "rd0"
        exact hR
      · unfold nx1
        rw [List.length_map]
        refine Nat.le_trans (List.length_filter_le _ _) ?_
        rw [List.length_map, List.length_range]
        omega
      · walk_at "rd0"
        refine r_extv rfl ?_ ?_
        · rw [List.length_append, List.length_map] at hn
          rw [List.length_map]
          omega
        · exact hN _ ⟨some _, some _, rfl⟩
  · obtain ⟨a, c, rfl⟩ := hS
    have e : ((List.range 4).flatMap fun i => ((nx1 r.length s i).filter (keptL r b)).map eS) = ((nxs r.length s).filter (keptL r b)).map eS := by
      unfold nxs
      rw [List.filter_flatMap, List.map_flatMap]
    rw [List.nil_append, e]
    walk_at "rd0"
    have nn : ∀ t ∈ (nxs r.length s).filter (keptL r b), t.length = 4 := fun t ht => by
      obtain ⟨h1, _⟩ := List.mem_filter.mp ht
      unfold nxs at h1
      obtain ⟨i, _, h1⟩ := List.mem_flatMap.mp h1
      obtain ⟨h, _, _, _, rfl⟩ := mem_nx1.mp h1
      rw [List.length_set]
      exact hs1
    refine r_sortL rfl (alike_eS _) (sortable_eS fun t ht e => ?_) ?_ (fun d hd => ?_) ?_
    · have := nn t ht
      rw [e] at this
      cases this
    · rw [← e]
      have := flat_le (l := List.range 4) (f := fun i => ((nx1 r.length s i).filter (keptL r b)).map eS) (m := 7) fun i _ => by rw [List.length_map]; exact few i
      have e : (List.range 4).length = 4 := rfl
      omega
    · obtain ⟨t, _, rfl⟩ := List.mem_map.mp hd
      exact Nat.le_trans (depth_eS t) (by decide)
    · rw [srt_nbr hs]
      walk_at "rd0"
      exact hq

theorem fv_ways_from (F : FnP K "ways_from" S_ways_from f fd) (hm : mg "ways_from" = some (.ref f)) (B : Blt mg) (g_next_stances : FnV P w K mg base 3 "next_stances" ["rock", "body", "stance"] [] (sp_next_stances)) : FnV P w K mg base 4 "ways_from" ["rock", "body", "start"] [] (sp_ways_from) := by
  refine fnV_mk F (fn_ok F sc_ways_from _ (fun tw ds Q E h => by obtain ⟨r, b, s, rfl, _⟩ := h; rfl) fun cdv A outer s H E tw hr tk po => ⟨_, (vss_cons (vs_par2 (i := 3) (j := 4) true true rfl sc_ways_from.nd rfl rfl (by decide) rfl rfl (vp_cons (ve_dict1 hr (vv 2) ve_non) (vp_cons (ve_lst (va_cons (vv 2) va_nil)) vp_nil)) rfl)
    (vss_cons (vs_while po (vt_ne hr (vv 4) (ve_lst va_nil)) (vss_cons (vs_pop0 (i := 4) (j := 5) sc_ways_from.nd rfl (by first | exact .inl rfl | exact .inr rfl) (pv 4))
    (vss_one (vs_for (T := (.one 6)) po rfl (vi_seq (ve_call (g_next_stances.mono (by decide)) hr tk rfl (va_cons (vv 0) (va_cons (vv 1) (va_cons (vv 5) va_nil))))) (vg_one sc_ways_from.nd (i := 6) rfl (by first | exact .inl rfl | exact .inr rfl)) (vss_one (vs_if (vt_notIn hr (vv 6) (vv 3)) (vss_cons (vs_dput (i := 3) hr (pv 3) (vv 6) (vv 5))
    (vss_one (vs_append (i := 4) (pv 4) (vv 6)))) vss_nil))))))
    (vss_one (vs_retZ (vv 3))))), fun ds Qd Ed h => ?_⟩) hm (fun _ _ _ _ _ _ us hl => match us, hl with | [_, _, _], _ => rfl) (fun n hn => absurd hn (List.not_mem_nil))
  obtain ⟨r, b, s, rfl, hl, hs, hq⟩ := h
  refine at_start (Γ := [SV.d _, SV.d _, SV.d _, SV.un, SV.un, SV.un, SV.un]) rfl ?_
  walk_at "rdn"
  refine r_while (α := BSt (List Int)) (fun st Γ => (∃ a c : Option D, Γ = [.d (.p (eR r)), .d (.p (eB b)), .d (.p (eS s)), .o (.dct st.1 (st.2.1.map eO)), .o (.p (.list (st.2.2.map eS))), sd a, sd c]) ∧ st.2.2.length ≤ st.1.length) (fun st => (goodS r b).length - st.1.length + st.2.2.length) (BInv (goodS r b) adj1 s) (st := ([s], [none], [s])) ⟨⟨none, none, rfl⟩, Nat.le_refl _⟩ ⟨0, [s], [], Bfs.start hs⟩ fun st Γ N hS hJ hN => ?_
  obtain ⟨⟨a, c, rfl⟩, hw⟩ := hS
  obtain ⟨g1, g2, g3, g4⟩ := hJ.inR
  have hlen := nodup_leG g1 g2
  have hmax := good_len r b hl
  walk_at "rdn"
  refine r_ne rfl rfl ⟨plain_lst (plain_rows _), rfl, Nat.le_trans (depth_lst (n := 2) fun z hz => ?_) (by decide)⟩ ?_
  · obtain ⟨u, _, rfl⟩ := List.mem_map.mp hz
    exact depth_eS u
  rw [eqv_nil]
  walk_at "rdn"
  obtain ⟨ks, ps, w⟩ := st
  cases w with
  | nil =>
    refine r_f rfl ?_
    walk_at "rdn"
    obtain ⟨n, A, B, hb⟩ := hJ
    exact hq ks ps (hb.done rfl)
  | cons here w =>
    refine r_t rfl ?_
    have hh : here ∈ goodS r b := g4 here (by simp)
    have hJ2 := hJ.turn (nbs := nbr r b) (fun v hv t => mem_nbr) (by simp)
    have e2 : bTurn (nbr r b) (ks, ps, here :: w) = (nbr r b here).foldl (bIn here) (ks, ps, w) := rfl
    have fl := fold_len (here := here) (nbr r b here) (ks, ps, w)
    rw [e2] at hJ2
    obtain ⟨k1, k2, k3, k4⟩ := hJ2.inR
    have klen := nodup_leG k1 k2
    walk_at "rdn"
    refine ⟨r, b, here, rfl, hl, hh, ?_⟩
    walk_at "rdn"
    refine for_st (enc := eS) (as := nbr r b here) (β := BSt (List Int)) (st := (ks, ps, w)) (fun st Γ => (∃ a : Option D, Γ = [.d (.p (eR r)), .d (.p (eB b)), .d (.p (eS s)), .o (.dct st.1 (st.2.1.map eO)), .o (.p (.list (st.2.2.map eS))), .d (.p (eS here)), sd a]) ∧ st.1.Nodup ∧ (∀ k ∈ st.1, k ∈ goodS r b) ∧ st.2.2.length ≤ st.1.length) (bIn here) ⟨⟨_, rfl⟩, g1, g2, ?_⟩ (fun t ht st Γ hS => ?_) fun Γ hS => ?_
    · have hw : w.length + 1 ≤ ks.length := hw
      show w.length ≤ ks.length
      omega
    · obtain ⟨⟨a, rfl⟩, n1, n2, n3⟩ := hS
      have nlen := nodup_leG n1 n2
      refine ⟨_, rfl, fun N hN => ?_⟩
      walk_at "rdn"
      unfold bIn at hN
      by_cases hk : t ∈ st.1
      · rw [if_pos hk] at hN
        refine r_f ?_ ?_
        · show (!hasK st.1 t) = false
          rw [hasK_dec, decide_eq_true hk]
          rfl
        walk_at "rdn"
        exact hN _ ⟨⟨some (.p (eS t)), rfl⟩, n1, n2, n3⟩
      · rw [if_neg hk] at hN
        have hk2 : hasK st.1 t = false := by rw [hasK_dec, decide_eq_false hk]
        refine r_t ?_ ?_
        · show (!hasK st.1 t) = true
          rw [hk2]
          rfl
        walk_at "rdn"
        refine r_dputw rfl (keyD_ints t) hk2 (by omega) ?_
        walk_at "rdn"
        refine r_app rfl ?_ ?_
        · rw [List.length_map]
          omega
        walk_at "rdn"
        refine hN _ ⟨⟨some (.p (eS t)), ?_⟩, List.nodup_append.mpr ⟨n1, by simp, fun x hx y hy e => ?_⟩, fun k hk3 => ?_, ?_⟩
        · rw [List.map_append, List.map_append]
          rfl
        · obtain rfl : y = t := by simpa using hy
          exact hk (by rw [← e]; exact hx)
        · rcases List.mem_append.mp hk3 with h | h
          · exact n2 k h
          · obtain rfl : k = t := by simpa using h
            exact (mem_nbr.mp ht).1
        · show (st.2.2 ++ [t]).length ≤ (st.1 ++ [t]).length
          rw [List.length_append, List.length_append]
          omega
    · obtain ⟨⟨a, rfl⟩, n1, n2, n3⟩ := hS
      refine hN _ _ ⟨⟨some (.p (eS here)), a, rfl⟩, n3⟩ hJ2 ?_
      have fl : ((nbr r b here).foldl (bIn here) (ks, ps, w)).1.length + w.length = ((nbr r b here).foldl (bIn here) (ks, ps, w)).2.2.length + ks.length := fl
      have hlen : ks.length ≤ (goodS r b).length := hlen
      have ew : (here :: w).length = w.length + 1 := rfl
      show (goodS r b).length - ((nbr r b here).foldl (bIn here) (ks, ps, w)).1.length + ((nbr r b here).foldl (bIn here) (ks, ps, w)).2.2.length < (goodS r b).length - ks.length + (here :: w).length
      rw [ew]
      omega

theorem fv_does_top (F : FnP K "does_top" S_does_top f fd) (hm : mg "does_top" = some (.ref f)) (B : Blt mg)  : FnV P w K mg base 1 "does_top" ["stance", "top"] [] (sp_does_top) := by
  refine fnV_mk F (fn_ok F sc_does_top _ (fun tw ds Q E h => by obtain ⟨s, top, rfl, _⟩ := h; rfl) fun cdv A outer s H E tw hr tk po => ⟨_, (vss_one (vs_ret (ve_in hr (vv 1) (ve_slice (vv 0) vo_none (vo_some ve_int))))), fun ds Qd Ed h => ?_⟩) hm (fun _ _ _ _ _ _ us hl => match us, hl with | [_, _], _ => rfl) (fun n hn => absurd hn (List.not_mem_nil))
  obtain ⟨s, top, rfl, hq⟩ := h
  refine at_start (Γ := [SV.d _, SV.d _]) rfl ?_
  walk_at "rd0"
  have e : cutD (s.map PyData.int) none (some 2) = (s.take 2).map PyData.int := cut_to PyData.int s 2
  rw [e]
  refine r_inT rfl rfl rfl (plain_ints _) (Nat.le_trans (depth_int _) (by decide)) ?_
  walk_at "rd0"
  have e2 : (((s.take 2).map PyData.int).any fun z => PyData.eqv z (.int top)) = tops s top := by
    rw [List.any_map]
    unfold tops
    congr 1
  rw [e2]
  exact hq

theorem fv_led_back (F : FnP K "led_back" S_led_back f fd) (hm : mg "led_back" = some (.ref f)) (B : Blt mg)  : FnV P w K mg base 1 "led_back" ["known", "goal"] [] (sp_led_back) := by
  refine fnV_mk F (fn_ok F sc_led_back _ (fun tw ds Q E h => by obtain ⟨rows, ks, ps, s, g, rfl, _⟩ := h; rfl) fun cdv A outer s H E tw hr tk po => ⟨_, (vss_cons (vs_own (i := 2) sc_led_back.nd rfl (by first | exact .inl rfl | exact .inr rfl) (ve_lst (va_cons (vv 1) va_nil)))
    (vss_cons (vs_while po (vt_isNot (ve_dget hr (vv 0) (ve_ix (vv 2) (ve_neg ve_int))) ve_non) (vss_one (vs_append (i := 2) (pv 2) (ve_dget hr (vv 0) (ve_ix (vv 2) (ve_neg ve_int))))))
    (vss_one (vs_ret (ve_tuple B rfl (va_cons (ve_rev (vv 2)) va_nil)))))), fun ds Qd Ed h => ?_⟩) hm (fun _ _ _ _ _ _ us hl => match us, hl with | [_, _], _ => rfl) (fun n hn => absurd hn (List.not_mem_nil))
  obtain ⟨rows, ks, ps, s, g, rfl, hl, h4, hd, hg, hq⟩ := h
  obtain ⟨n0, hs0⟩ := LB.start hd hg
  have hsr : s ∈ rows := by
    obtain ⟨n, hw⟩ := (hd.mem s).mp hd.sm
    exact hw.lst
  have hkl : ks.length ≤ 2401 := Nat.le_trans (nodup_leG hd.nd fun k hk => by
    obtain ⟨n, hw⟩ := (hd.mem k).mp hk
    exact hw.lst) hl
  refine at_start (Γ := [SV.d _, SV.d _, SV.un]) rfl ?_
  walk_at "rd0"
  refine r_while (α := List (List Int) × Nat) (fun st Γ => Γ = [.d (.fz ks (ps.map eO)), .d (.p (eS g)), .o (.p (.list (st.1.map eS)))]) (fun st => st.2) (fun st => LB rows s g ks st) (st := ([g], n0)) rfl hs0 fun st Γ N hS hJ hN => ?_
  obtain ⟨l, n⟩ := st
  subst hS
  obtain ⟨c, c1, c2, c3⟩ := hJ.ex
  have c1 : l.getLast? = some c := c1
  obtain ⟨i, p, p1, p2, p3⟩ := atD_ex c2 hd.ln
  have look : ∀ {Q : AV → Prop}, Q (.c (.p (eO p))) → gDGet (.c (.fz ks (ps.map eO))) (.c (.p (eS c))) Q := fun {Q} h => r_dget (is := c.map PyData.int) (ks := ks) (ds := ps.map eO) rfl rfl (by rw [keyD_ints]; exact p3) h
  have last : atI (l.map eS) (-1) = some (eS c) := atI_last (by rw [List.getLast?_map, c1]; rfl)
  walk_at "rd0"
  refine r_ixL rfl last ?_
  walk_at "rd0"
  refine look ?_
  walk_at "rd0"
  cases p with
  | none =>
    have es : c = s := by
      rcases hd.pv i c none p1 p2 with ⟨e, _⟩ | ⟨u, m, e, _⟩
      · exact e
      · cases e
    subst es
    have sp := hJ.done c1 hsr
    refine r_isNot rfl ?_
    walk_at "rd0"
    rw [← List.map_reverse]
    exact hq _ sp
  | some u =>
    rcases hd.pv i c (some u) p1 p2 with ⟨_, e⟩ | ⟨u', m, e, hu, ha, d1, d2⟩
    · cases e
    cases e
    obtain ⟨hJ2, hm⟩ := hJ.go c1 hu ha d1 d2
    refine r_isNot rfl ?_
    walk_at "rd0"
    refine r_app rfl ?_ ?_
    · rw [List.length_map]
      have := hJ.d
      obtain ⟨k, k1, k2⟩ := hJ.d
      have k2 : k + 1 = n + l.length := k2
      have := IsD.lt_rows k1 hsr
      omega
    walk_at "rd0"
    refine r_ixL rfl last ?_
    walk_at "rd0"
    refine look ?_
    walk_at "rd0"
    refine hN (l ++ [u], m) _ ?_ hJ2 hm
    rw [List.map_append]
    rfl

theorem fv_found_climb (F : FnP K "found_climb" S_found_climb f fd) (hm : mg "found_climb" = some (.ref f)) (B : Blt mg) (g_ways_from : FnV P w K mg base 4 "ways_from" ["rock", "body", "start"] [] (sp_ways_from)) (g_does_top : FnV P w K mg base 1 "does_top" ["stance", "top"] [] (sp_does_top)) (g_led_back : FnV P w K mg base 1 "led_back" ["known", "goal"] [] (sp_led_back)) : FnV P w K mg base 5 "found_climb" ["rock", "body", "start", "top"] [] (sp_found_climb) := by
  refine fnV_mk F (fn_ok F sc_found_climb _ (fun tw ds Q E h => by obtain ⟨r, b, s, top, rfl, _⟩ := h; rfl) fun cdv A outer s H E tw hr tk po => ⟨_, (vss_cons (vs_set (i := 4) sc_found_climb.nd rfl (by first | exact .inl rfl | exact .inr rfl) (ve_call (g_ways_from.mono (by decide)) hr tk rfl (va_cons (vv 0) (va_cons (vv 1) (va_cons (vv 2) va_nil)))))
    (vss_cons (vs_setLc (i := 5) rfl sc_found_climb.nd rfl rfl (own := [("there", 6)]) (T := (.one 6)) (blkOk_by (N := N_found_climb) (sc := defScope S_found_climb) (by decide +kernel)) (by decide) (VI.vj (vi_keys (vv 4))) fun s H C cl fp => ⟨(vg_one sc_found_climb.nd (i := 6) rfl (by first | exact .inl rfl | exact .inr rfl)), (vts_one (vt_val (ve_call (g_does_top.mono (by decide)) hr takes0 rfl (va_cons (vv 6) (va_cons (vv 3) va_nil))))), (ve_call (g_led_back.mono (by decide)) hr takes0 rfl (va_cons (vv 4) (va_cons (vv 6) va_nil)))⟩)
    (vss_one (vs_ret (ve_if (vt_ne hr (vv 5) (ve_lst va_nil)) (ve_ix (ve_minL B rfl hr rfl (va_cons (ve_lc rfl sc_found_climb.nd (own := [("row", 7)]) (T := (.one 7)) (blkOk_by (N := N_found_climb) (sc := defScope S_found_climb) (by decide +kernel)) (by decide) (vj_seq (vv 5)) fun s H C cl fp => ⟨(vg_one sc_found_climb.nd (i := 7) rfl (by first | exact .inl rfl | exact .inr rfl)), vts_nil, (ve_tup (va_cons (ve_len B rfl (va_cons (vv 7) va_nil)) (va_cons (vv 7) va_nil)))⟩) va_nil)) ve_int) ve_non))))), fun ds Qd Ed h => ?_⟩) hm (fun _ _ _ _ _ _ us hl => match us, hl with | [_, _, _, _], _ => rfl) (fun n hn => absurd hn (List.not_mem_nil))
  obtain ⟨r, b, s, top, rfl, hl, hs, hq⟩ := h
  refine at_start (Γ := [SV.d _, SV.d _, SV.d _, SV.d _, SV.un, SV.un, SV.un, SV.un]) rfl ?_
  walk_at "rd0"
  refine ⟨r, b, s, rfl, hl, hs, fun ks ps hd => ?_⟩
  walk_at "rd0"
  have kr : ∀ k ∈ ks, k ∈ goodS r b := fun k hk => by
    obtain ⟨n, hw⟩ := (hd.mem k).mp hk
    exact hw.lst
  have hmax := good_len r b hl
  have hkl : ks.length ≤ 2401 := Nat.le_trans (nodup_leG hd.nd kr) hmax
  refine lc_rel (enc := tupK) (as := ks) (dec := fun l : List (List Int) => .tuple (l.map eS)) (p := fun k => tops k top) (fun k l => SPath (goodS r b) s k l) (fun k hk => ⟨_, rfl, fun Q hQ => ?_, fun _ R hR => ?_⟩) (by rw [List.length_nil]; omega) fun zs zl zr => ?_
  · walk_at "rd0"
    exact ⟨k, top, rfl, hQ⟩
  · walk_at "rd0"
    exact ⟨goodS r b, ks, ps, s, k, rfl, hmax, fun x hx => (mem_good.mp hx).1, hd, hk, hR⟩
  have zmax : zs.length ≤ 2401 := by
    rw [zl]
    exact Nat.le_trans (List.length_filter_le _ _) hkl
  rw [List.nil_append]
  walk_at "rd0"
  refine r_ne rfl rfl ⟨plain_lst (plain_all fun z hz => ?_), rfl, Nat.le_trans (depth_lst (n := 3) fun z hz => ?_) (by decide)⟩ ?_
  · obtain ⟨l, _, rfl⟩ := List.mem_map.mp hz
    exact plain_rowsT l
  · obtain ⟨l, _, rfl⟩ := List.mem_map.mp hz
    exact depth_rows l
  rw [eqv_nil]
  cases zs with
  | nil =>
    walk_at "rd0"
    refine hq none (climb_none hd ?_)
    rw [List.any_eq_false]
    intro k hk ht
    have : k ∈ ks.filter fun k => tops k top := List.mem_filter.mpr ⟨hk, ht⟩
    rw [List.length_nil] at zl
    rw [List.eq_nil_of_length_eq_zero zl.symm] at this
    cases this
  | cons z zs =>
    walk_at "rd0"
    refine lc_mapE (enc := fun l : List (List Int) => .tuple (l.map eS)) (as := z :: zs) (f := eP) (fun l hl => ⟨_, rfl, fun R hR => ?_⟩) (by omega) ?_
    · walk_at "rd0"
      rw [List.length_map]
      exact hR
    · walk_at "rd0"
      obtain ⟨m, m1, m2, m3⟩ := min_eP zs z
      refine r_minL (p := eP z) (ps := zs.map eP) rfl (alikeAll_eP (z :: zs)) (Nat.le_trans (depth_all (n := 4) fun x hx => ?_) (by decide)) ?_
      · obtain ⟨l, _, rfl⟩ := List.mem_map.mp (show x ∈ (z :: zs).map eP from hx)
        exact depth_eP l
      rw [m2]
      have fin : Qd (.p (eW (some m))) := by
        obtain ⟨i, hi⟩ := List.getElem?_of_mem m1
        have hil : i < ((ks.filter fun k => tops k top)).length := by
          rw [← zl]
          by_cases q : i < (z :: zs).length
          · exact q
          · rw [List.getElem?_eq_none (by omega)] at hi
            cases hi
        obtain ⟨g, hg⟩ : ∃ g, (ks.filter fun k => tops k top)[i]? = some g := ⟨_, List.getElem?_eq_getElem hil⟩
        have hp := zr i g m hg hi
        have gt := (List.mem_filter.mp (List.mem_of_getElem? hg)).2
        refine hq (some m) ⟨g, hp, gt, topd_some.mpr ⟨⟨g, hp.short, gt⟩, fun g' n hw ht => ?_⟩⟩
        have hm' : g' ∈ ks.filter fun k => tops k top := List.mem_filter.mpr ⟨(hd.mem g').mpr ⟨n, hw⟩, ht⟩
        obtain ⟨j, hj⟩ := List.getElem?_of_mem hm'
        have hjl : j < (z :: zs).length := by
          rw [zl]
          by_cases q : j < (ks.filter fun k => tops k top).length
          · exact q
          · rw [List.getElem?_eq_none (by omega)] at hj
            cases hj
        obtain ⟨l, hl⟩ : ∃ l, (z :: zs)[j]? = some l := ⟨_, List.getElem?_eq_getElem hjl⟩
        have hp2 := (zr j g' l hj hl).short.le hw
        have := m3 l (List.mem_of_getElem? hl)
        omega
      walk_at "rd0"
      exact fin

theorem fv_fewest_moves (F : FnP K "fewest_moves" S_fewest_moves f fd) (hm : mg "fewest_moves" = some (.ref f)) (B : Blt mg) (g_check_top : FnV P w K mg base 8 "check_top" ["rock", "body", "start", "top"] [] (sp_check_top ec)) (g_found_climb : FnV P w K mg base 5 "found_climb" ["rock", "body", "start", "top"] [] (sp_found_climb)) : FnV P w K mg base 9 "fewest_moves" ["rock", "body", "start", "top"] [0] (sp_fewest_moves ec) := by
  refine fnV_mk F (fn_ok F sc_fewest_moves _ (fun tw ds Q E h => by obtain ⟨u, v, x, y, rfl, _⟩ := h; rfl) fun cdv A outer s H E tw hr tk po => ⟨_, (vss_cons (vs_expr (ve_call (g_check_top.mono (by decide)) hr tk rfl (va_cons (vv 0) (va_cons (vv 1) (va_cons (vv 2) (va_cons (vv 3) va_nil))))))
    (vss_cons (vs_set (i := 4) sc_fewest_moves.nd rfl (by first | exact .inl rfl | exact .inr rfl) (ve_call (g_found_climb.mono (by decide)) hr tk rfl (va_cons (vv 0) (va_cons (vv 1) (va_cons (vv 2) (va_cons (vv 3) va_nil))))))
    (vss_one (vs_ret (ve_if (vt_isNot (vv 4) ve_non) (ve_sub (ve_len B rfl (va_cons (vv 4) va_nil)) ve_int) ve_non))))), fun ds Qd Ed h => ?_⟩) hm (fun _ _ _ _ _ _ us hl => match us, hl with | [_, _, _, _], _ => rfl) (fun n hn kV doc pm an cdv ct us ws h1 h2 => by
    simp only [List.mem_cons, List.not_mem_nil, or_false] at hn
    subst hn
    exact match us, ws, h1, h2 with | [], [_, _, _, _], _, _ => rfl)
  obtain ⟨u, v, x, y, rfl, hu, hv, hx, hy, hq⟩ := h
  refine at_start (Γ := [SV.d _, SV.d _, SV.d _, SV.d _, SV.un]) rfl ?_
  walk_at "rd0"
  refine ⟨u, v, x, y, rfl, hu, hv, hx, hy, ckB_mono hq fun r b e1 e2 hr hb h1 => ckS_mono h1 fun s e3 hs h2 => ckH_mono h2 fun top e4 ht h3 => ?_⟩
  subst e1
  subst e2
  subst e3
  subst e4
  walk_at "rd0"
  refine ⟨r, b, s, top, rfl, hr.few, hs, fun o ho => ?_⟩
  walk_at "rd0"
  cases o with
  | none =>
    refine r_isNot rfl ?_
    walk_at "rd0"
    have e : topd (goodS r b) s top = none := ho
    rw [e] at h3
    exact h3
  | some l =>
    refine r_isNot rfl ?_
    walk_at "rd0"
    obtain ⟨g, hp, _, e⟩ := ho
    rw [e] at h3
    have hl : 0 < l.length := List.length_pos_iff.mpr fun z => by
      have := hp.hd
      rw [z] at this
      cases this
    rw [List.length_map]
    have ei : (l.length : Int) - 1 = ((l.length - 1 : Nat) : Int) := by omega
    rw [ei]
    exact h3

theorem fv_climb (F : FnP K "climb" S_climb f fd) (hm : mg "climb" = some (.ref f)) (B : Blt mg) (g_check_top : FnV P w K mg base 8 "check_top" ["rock", "body", "start", "top"] [] (sp_check_top ec)) (g_found_climb : FnV P w K mg base 5 "found_climb" ["rock", "body", "start", "top"] [] (sp_found_climb)) : FnV P w K mg base 9 "climb" ["rock", "body", "start", "top"] [0] (sp_climb ec) := by
  refine fnV_mk F (fn_ok F sc_climb _ (fun tw ds Q E h => by obtain ⟨u, v, x, y, rfl, _⟩ := h; rfl) fun cdv A outer s H E tw hr tk po => ⟨_, (vss_cons (vs_expr (ve_call (g_check_top.mono (by decide)) hr tk rfl (va_cons (vv 0) (va_cons (vv 1) (va_cons (vv 2) (va_cons (vv 3) va_nil))))))
    (vss_one (vs_ret (ve_call (g_found_climb.mono (by decide)) hr tk rfl (va_cons (vv 0) (va_cons (vv 1) (va_cons (vv 2) (va_cons (vv 3) va_nil)))))))), fun ds Qd Ed h => ?_⟩) hm (fun _ _ _ _ _ _ us hl => match us, hl with | [_, _, _, _], _ => rfl) (fun n hn kV doc pm an cdv ct us ws h1 h2 => by
    simp only [List.mem_cons, List.not_mem_nil, or_false] at hn
    subst hn
    exact match us, ws, h1, h2 with | [], [_, _, _, _], _, _ => rfl)
  obtain ⟨u, v, x, y, rfl, hu, hv, hx, hy, hq⟩ := h
  refine at_start (Γ := [SV.d _, SV.d _, SV.d _, SV.d _]) rfl ?_
  walk_at "rd0"
  refine ⟨u, v, x, y, rfl, hu, hv, hx, hy, ckB_mono hq fun r b e1 e2 hr hb h1 => ckS_mono h1 fun s e3 hs h2 => ckH_mono h2 fun top e4 ht h3 => ?_⟩
  subst e1
  subst e2
  subst e3
  subst e4
  walk_at "rd0"
  refine ⟨r, b, s, top, rfl, hr.few, hs, fun o ho => ?_⟩
  walk_at "rd0"
  exact h3 o ho

theorem fv__law_climb (F : FnP K "_law_climb" S__law_climb f fd) (hm : mg "_law_climb" = some (.ref f)) (B : Blt mg) (g__law_near : FnV P w K mg base 1 "_law_near" ["_law_rows", "_law_pose"] [] (sp__law_near)) : FnV P w K mg base 2 "_law_climb" ["_law_rows", "_law_begin", "_law_top_here", "_law_value_here"] [] (sp__law_climb) := by
  refine fnV_mk F (fn_ok F sc__law_climb _ (fun tw ds Q E h => by obtain ⟨r, b, s, top, l, rfl, _⟩ := h; rfl) fun cdv A outer s H E tw hr tk po => ⟨_, (vss_cons (vs_if (PW.pt (vw_or (vt_eq hr (vv 3) (ve_tup va_nil)) (vw_or (vt_ne hr (ve_ix (vv 3) ve_int) (vv 1)) (vw_or1 (vt_ne hr (ve_lc rfl sc__law_climb.nd (own := [("_law_row", 4)]) (T := (.one 4)) (blkOk_by (N := N__law_climb) (sc := defScope S__law_climb) (by decide +kernel)) (by decide) (vj_seq (vv 3)) fun s H C cl fp => ⟨(vg_one sc__law_climb.nd (i := 4) rfl (by first | exact .inl rfl | exact .inr rfl)), (vts_one (vt_notIn hr (vv 4) (vv 0))), (vv 4)⟩) (ve_lst va_nil)))))) (vss_one (vs_ret ve_bl)) vss_nil)
    (vss_cons (vs_for (T := (.many [5, 6])) po rfl (vi_zip B rfl (va_cons (vv 3) (va_cons (ve_slice (vv 3) (vo_some ve_int) vo_none) va_nil))) (vg_many (is := [5, 6]) rfl (pgs_cons (pg_name sc__law_climb.nd (i := 5) rfl (by first | exact .inl rfl | exact .inr rfl) (by first | exact .inl rfl | exact .inr rfl)) (pgs_cons (pg_name sc__law_climb.nd (i := 6) rfl (by first | exact .inl rfl | exact .inr rfl) (by first | exact .inl rfl | exact .inr rfl)) pgs_nil))) (vss_one (vs_if (vt_notIn hr (vv 6) (ve_call (g__law_near.mono (by decide)) hr tk rfl (va_cons (vv 0) (va_cons (vv 5) va_nil)))) (vss_one (vs_ret ve_bl)) vss_nil)))
    (vss_one (vs_ret (ve_eq hr (ve_lc rfl sc__law_climb.nd (own := [("_law_at", 7), ("_law_row", 4)]) (T := (.many [7, 4])) (blkOk_by (N := N__law_climb) (sc := defScope S__law_climb) (by decide +kernel)) (by decide) (VI.vj (vi_enum B rfl (va_cons (vv 3) va_nil))) fun s H C cl fp => ⟨(vg_many (is := [7, 4]) rfl (pgs_cons (pg_name sc__law_climb.nd (i := 7) rfl (by first | exact .inl rfl | exact .inr rfl) (by first | exact .inl rfl | exact .inr rfl)) (pgs_cons (pg_name sc__law_climb.nd (i := 4) rfl (by first | exact .inl rfl | exact .inr rfl) (by first | exact .inl rfl | exact .inr rfl)) pgs_nil))), (vts_one (vt_in hr (vv 2) (ve_slice (vv 4) vo_none (vo_some ve_int)))), (vv 7)⟩) (ve_lst (va_cons (ve_sub (ve_len B rfl (va_cons (vv 3) va_nil)) ve_int) va_nil))))))), fun ds Qd Ed h => ?_⟩) hm (fun _ _ _ _ _ _ us hl => match us, hl with | [_, _, _, _], _ => rfl) (fun n hn => absurd hn (List.not_mem_nil))
  obtain ⟨r, b, s, top, l, rfl, hl, hg, hn, hq⟩ := h
  have glen := good_len r b hl
  refine at_start (Γ := [SV.d _, SV.d _, SV.d _, SV.d _, SV.un, SV.un, SV.un, SV.un]) rfl ?_
  cases l with
  | nil =>
    walk_at "rdv"
    exact hq
  | cons c l0 =>
  walk_at "rdv"
  generalize hl0 : c :: l0 = l at hg hn hq
  obtain ⟨d, hd⟩ : ∃ d, l.getLast? = some d := by
    rw [← hl0]
    exact ⟨_, List.getLast?_eq_some_getLast (by simp)⟩
  have hc : l.head? = some c := by rw [← hl0]; rfl
  have hix : atI (l.map eS) 0 = some (eS c) := by rw [← hl0]; exact at0
  have hne : l ≠ [] := by rw [← hl0]; simp
  refine r_f (by rw [← hl0]; rfl) ?_
  walk_at "rdv"
  refine r_ixT rfl hix ?_
  walk_at "rdv"
  cases e1 : decide (c = s) with
  | false =>
    rw [climbB_hd hc e1] at hq
    walk_at "rdv"
    exact hq
  | true =>
  rw [climbB_rest hc e1] at hq
  walk_at "rdv"
  refine lc_filter0 (enc := eS) (as := l) (p := fun _ => false) (f := eS) (fun x hx => ⟨_, rfl, fun Q hQ => ?_, fun h => (by cases h)⟩) (by omega) ?_
  · walk_at "rdv"
    rw [inB_iff.mpr (hg x hx)]
    exact hQ
  walk_at "rdv"
  refine r_neL0 (a := l.filter fun _ => false) rfl ?_
  rw [List.filter_eq_nil_iff.mpr fun _ _ => by decide]
  walk_at "rdv"
  rw [cut1, zipD_map]
  walk_at "rdv"
  have hz : pairsOk adj1 l = !((l.zip (l.drop 1)).any fun q => !adj1 q.1 q.2) := by
    rw [pairs_zip, List.all_eq_not_any_not]
  refine for_find (enc := fun p : List Int × List Int => .tuple [eS p.1, eS p.2]) (as := l.zip (l.drop 1)) (fun Γ => ∃ a5 a6 : Option D, Γ = [.d (.p (.list ((goodS r b).map eS))), .d (.p (eS s)), .d (dI top), .d (.p (.tuple (l.map eS))), .un, sd a5, sd a6, .un]) (fun q => !adj1 q.1 q.2) (fun _ => dB false) ⟨none, none, rfl⟩ (fun q hq2 Γ hS => ?_) (fun q hf => ?_) (fun hf Γ hS => ?_)
  · obtain ⟨a5, a6, rfl⟩ := hS
    have hm := List.of_mem_zip hq2
    have g1 := hg _ hm.1
    have g2 := hg _ (List.mem_of_mem_drop hm.2)
    refine ⟨_, rfl, fun N hN hR => ?_⟩
    walk_at "rdv"
    refine ⟨goodS r b, q.1, rfl, by omega, by rw [(mem_good.mp g1).1]; decide, ?_⟩
    walk_at "rdv"
    rw [near_in g2]
    cases e : adj1 q.1 q.2 with
    | true =>
      rw [e] at hN
      walk_at "rdv"
      exact hN rfl _ ⟨some _, some _, rfl⟩
    | false =>
      rw [e] at hR
      walk_at "rdv"
      exact hR rfl
  · rw [hz, any_find hf] at hq
    exact hq
  obtain ⟨a5, a6, rfl⟩ := hS
  rw [hz, any_none hf, Bool.not_false, Bool.true_and, ← topIx_last hne] at hq
  walk_at "rdv"
  rw [enumD_map]
  refine lc_filter0 (enc := fun p : Nat × List Int => .tuple [.int (p.1 : Int), eS p.2]) (as := (List.range l.length).zip l) (p := fun p => tops p.2 top) (f := fun p => .int (p.1 : Int)) (fun p hp => ⟨_, rfl, fun Q hQ => ?_, fun _ R hR => ?_⟩) (by rw [List.length_zip, List.length_range]; omega) ?_
  · walk_at "rdv"
    exact hQ
  · walk_at "rdv"
    exact hR
  walk_at "rdv"
  refine r_eqIntsL (a := topIx top l) (b := [((l.length : Int) - 1)]) (by unfold topIx; rw [List.map_map]; rfl) (by rw [List.length_map]; rfl) ?_
  exact hq

theorem fv__law_is (F : FnP K "_law_is" S__law_is f fd) (hm : mg "_law_is" = some (.ref f)) (B : Blt mg)  : FnV P w K mg base 1 "_law_is" ["_law_found", "_law_expected"] [] (sp__law_is) := by
  refine fnV_mk F (fn_ok F sc__law_is _ (fun tw ds Q E h => by obtain ⟨b, c, rfl, _⟩ := h; rfl) fun cdv A outer s H E tw hr tk po => ⟨_, (vss_one (vs_ret (ve_and (ve_isi B rfl rfl B.bool bb_bool (by decide) (vv 0)) (ve_one (ve_eq hr (vv 0) (vv 1)))))), fun ds Qd Ed h => ?_⟩) hm (fun _ _ _ _ _ _ us hl => match us, hl with | [_, _], _ => rfl) (fun n hn => absurd hn (List.not_mem_nil))
  obtain ⟨b, c, rfl, hq⟩ := h
  refine at_start (Γ := [SV.d _, SV.d _]) rfl ?_
  walk_at "rd0"
  refine r_eq rfl rfl ⟨rfl, rfl, Nat.zero_le _⟩ ?_
  have e : PyData.eqv (.bool b) (.bool c) = (b == c) := by rw [PyData.eqv]
  rw [e]
  walk_at "rd0"
  exact hq

theorem fv_differ_in_one (F : FnP K "differ_in_one" S_differ_in_one f fd) (hm : mg "differ_in_one" = some (.ref f)) (B : Blt mg)  : FnV P w K mg base 1 "differ_in_one" ["one", "other"] [] (sp_differ_in_one) := by
  refine fnV_mk F (fn_ok F sc_differ_in_one _ (fun tw ds Q E h => by obtain ⟨s, t, rfl, _⟩ := h; rfl) fun cdv A outer s H E tw hr tk po => ⟨_, (vss_one (vs_ret (ve_eq hr (ve_len B rfl (va_cons (ve_lc rfl sc_differ_in_one.nd (own := [("mine", 2), ("yours", 3)]) (T := (.many [2, 3])) (blkOk_by (N := N_differ_in_one) (sc := defScope S_differ_in_one) (by decide +kernel)) (by decide) (VI.vj (vi_zip B rfl (va_cons (vv 0) (va_cons (vv 1) va_nil)))) fun s H C cl fp => ⟨(vg_many (is := [2, 3]) rfl (pgs_cons (pg_name sc_differ_in_one.nd (i := 2) rfl (by first | exact .inl rfl | exact .inr rfl) (by first | exact .inl rfl | exact .inr rfl)) (pgs_cons (pg_name sc_differ_in_one.nd (i := 3) rfl (by first | exact .inl rfl | exact .inr rfl) (by first | exact .inl rfl | exact .inr rfl)) pgs_nil))), (vts_one (vt_ne hr (vv 2) (vv 3))), ve_int⟩) va_nil)) ve_int))), fun ds Qd Ed h => ?_⟩) hm (fun _ _ _ _ _ _ us hl => match us, hl with | [_, _], _ => rfl) (fun n hn => absurd hn (List.not_mem_nil))
  obtain ⟨s, t, rfl, hl, hq⟩ := h
  refine at_start (Γ := [SV.d _, SV.d _, SV.un, SV.un]) rfl ?_
  walk_at "rd0"
  rw [zipD_map]
  refine lc_filter0 (p := fun p : Int × Int => !decide (p.1 = p.2)) (f := fun _ => .int 1) (fun p hp => ⟨_, rfl, fun Q hQ => ?_, fun _ R hR => ?_⟩) (by rw [List.length_zip]; omega) ?_
  · walk_at "rd0"
    exact hQ
  · walk_at "rd0"
    exact hR
  · walk_at "rd0"
    rw [List.length_map]
    unfold adj1 at hq
    have e : decide ((((s.zip t).filter fun p => !decide (p.1 = p.2)).length : Int) = 1) = decide (((s.zip t).filter fun p => !decide (p.1 = p.2)).length = 1) := by
      by_cases q : ((s.zip t).filter fun p => !decide (p.1 = p.2)).length = 1
      · rw [decide_eq_true q, decide_eq_true (by omega)]
      · rw [decide_eq_false q, decide_eq_false (by omega)]
    rw [e]
    exact hq

theorem fv_is_any_way (F : FnP K "is_any_way" S_is_any_way f fd) (hm : mg "is_any_way" = some (.ref f)) (B : Blt mg) (g_is_good_one : FnV P w K mg base 3 "is_good_one" ["rock", "body", "value"] [] (sp_is_good_one)) (g_differ_in_one : FnV P w K mg base 1 "differ_in_one" ["one", "other"] [] (sp_differ_in_one)) : FnV P w K mg base 4 "is_any_way" ["rock", "body", "value"] [] (sp_is_any_way) := by
  refine fnV_mk F (fn_ok F sc_is_any_way _ (fun tw ds Q E h => by obtain ⟨r, b, v, rfl, _⟩ := h; rfl) fun cdv A outer s H E tw hr tk po => ⟨_, (vss_cons (vs_if (PW.pt (vw_or (vt_not (vt_val (ve_isi B rfl rfl B.tuple bb_tuple (by decide) (vv 2)))) (vw_or (vt_eq hr (vv 2) (ve_tup va_nil)) (vw_or1 (vt_not (vt_val (ve_all B rfl rfl (va_cons (ve_lc rfl sc_is_any_way.nd (own := [("row", 3)]) (T := (.one 3)) (blkOk_by (N := N_is_any_way) (sc := defScope S_is_any_way) (by decide +kernel)) (by decide) (vj_seq (vv 2)) fun s H C cl fp => ⟨(vg_one sc_is_any_way.nd (i := 3) rfl (by first | exact .inl rfl | exact .inr rfl)), vts_nil, (ve_call (g_is_good_one.mono (by decide)) hr takes0 rfl (va_cons (vv 0) (va_cons (vv 1) (va_cons (vv 3) va_nil))))⟩) va_nil)))))))) (vss_one (vs_ret ve_bl)) vss_nil)
    (vss_one (vs_ret (ve_all B rfl rfl (va_cons (ve_lc rfl sc_is_any_way.nd (own := [("one", 4), ("other", 5)]) (T := (.many [4, 5])) (blkOk_by (N := N_is_any_way) (sc := defScope S_is_any_way) (by decide +kernel)) (by decide) (VI.vj (vi_zip B rfl (va_cons (vv 2) (va_cons (ve_slice (vv 2) (vo_some ve_int) vo_none) va_nil)))) fun s H C cl fp => ⟨(vg_many (is := [4, 5]) rfl (pgs_cons (pg_name sc_is_any_way.nd (i := 4) rfl (by first | exact .inl rfl | exact .inr rfl) (by first | exact .inl rfl | exact .inr rfl)) (pgs_cons (pg_name sc_is_any_way.nd (i := 5) rfl (by first | exact .inl rfl | exact .inr rfl) (by first | exact .inl rfl | exact .inr rfl)) pgs_nil))), vts_nil, (ve_call (g_differ_in_one.mono (by decide)) hr takes0 rfl (va_cons (vv 4) (va_cons (vv 5) va_nil)))⟩) va_nil))))), fun ds Qd Ed h => ?_⟩) hm (fun _ _ _ _ _ _ us hl => match us, hl with | [_, _, _], _ => rfl) (fun n hn => absurd hn (List.not_mem_nil))
  obtain ⟨r, b, v, rfl, hv, hq⟩ := h
  cases v with
  | dict kvs => cases hv.1
  | none =>
    refine at_start (Γ := [SV.d _, SV.d _, SV.d _, SV.un, SV.un, SV.un]) rfl ?_
    walk_at "rd0"
    exact hq
  | bool b =>
    refine at_start (Γ := [SV.d _, SV.d _, SV.d _, SV.un, SV.un, SV.un]) rfl ?_
    walk_at "rd0"
    exact hq
  | str s =>
    refine at_start (Γ := [SV.d _, SV.d _, SV.d _, SV.un, SV.un, SV.un]) rfl ?_
    walk_at "rd0"
    exact hq
  | list xs =>
    refine at_start (Γ := [SV.d _, SV.d _, SV.d _, SV.un, SV.un, SV.un]) rfl ?_
    walk_at "rd0"
    exact hq
  | int i =>
    refine at_start (Γ := [SV.d _, SV.d _, SV.d _, SV.un, SV.un, SV.un]) rfl ?_
    walk_at "rd0"
    exact hq
  | tuple xs =>
    refine at_start (Γ := [SV.d _, SV.d _, SV.d _, SV.un, SV.un, SV.un]) rfl ?_
    walk_at "rd0"
    have hlen := hv.2.2 xs rfl
    refine r_eq rfl rfl ⟨hv.1, rfl, hv.2.1⟩ ?_
    rw [eqv_nilT]
    walk_at "rd0"
    cases h1 : xs.isEmpty with
    | true =>
      have e : anyWay r b (.tuple xs) = false := by
        show (!xs.isEmpty && _) = false
        rw [h1]
        rfl
      rw [e] at hq
      walk_at "rd0"
      exact hq
    | false =>
    walk_at "rd0"
    refine lc_map (f := fun x => .bool (goodOne r b x)) (fun a ha => ⟨_, rfl, fun R hR => ?_⟩) (by omega) ?_
    · walk_at "rd0"
      exact ⟨r, b, a, rfl, plain_mem (plain_tup hv.1) a ha, hR⟩
    walk_at "rd0"
    refine r_all rfl (boolsD_map _ _) ?_
    rw [List.all_map]
    cases h2 : xs.all (goodOne r b) with
    | false =>
      have e : anyWay r b (.tuple xs) = false := by
        show (!xs.isEmpty && (xs.all (goodOne r b) && _)) = false
        rw [h2, Bool.false_and, Bool.and_false]
      rw [e] at hq
      have e2 : (xs.all (id ∘ goodOne r b)) = false := h2
      rw [e2]
      walk_at "rd0"
      exact hq
    | true =>
      have e2 : (xs.all (id ∘ goodOne r b)) = true := h2
      rw [e2]
      walk_at "rd0"
      obtain ⟨l, rfl, hl⟩ := good_all h2
      rw [anyWay_tup hl] at hq
      have h1' : l.isEmpty = false := by
        cases l with
        | nil => cases h1
        | cons => rfl
      rw [h1', Bool.not_false, Bool.true_and, pairs_zip] at hq
      rw [cut1, zipD_map]
      rw [List.length_map] at hlen
      refine lc_mapE (f := fun p : List Int × List Int => .bool (adj1 p.1 p.2)) (fun p hp => ⟨_, rfl, fun R hR => ?_⟩) (by rw [List.length_zip]; omega) ?_
      · have := (List.of_mem_zip hp).1
        have h4 := (mem_good.mp (hl _ this)).1
        walk_at "rd0"
        exact ⟨p.1, p.2, rfl, by omega, hR⟩
      · walk_at "rd0"
        refine r_all rfl (boolsD_map _ _) ?_
        rw [List.all_map]
        exact hq

theorem fv_is_climb (F : FnP K "is_climb" S_is_climb f fd) (hm : mg "is_climb" = some (.ref f)) (B : Blt mg) (g_check_top : FnV P w K mg base 8 "check_top" ["rock", "body", "start", "top"] [] (sp_check_top ec)) (g_does_top : FnV P w K mg base 1 "does_top" ["stance", "top"] [] (sp_does_top)) (g_is_any_way : FnV P w K mg base 4 "is_any_way" ["rock", "body", "value"] [] (sp_is_any_way)) : FnV P w K mg base 9 "is_climb" ["rock", "body", "start", "top", "value"] [4] (sp_is_climb ec) := by
  refine fnV_mk F (fn_ok F sc_is_climb _ (fun tw ds Q E h => by obtain ⟨u, v, x, y, z, rfl, _⟩ := h; rfl) fun cdv A outer s H E tw hr tk po => ⟨_, (vss_cons (vs_expr (ve_call (g_check_top.mono (by decide)) hr tk rfl (va_cons (vv 0) (va_cons (vv 1) (va_cons (vv 2) (va_cons (vv 3) va_nil))))))
    (vss_cons (vs_if (PW.pt (vw_or (vt_not (vt_val (ve_call (g_is_any_way.mono (by decide)) hr tk rfl (va_cons (vv 0) (va_cons (vv 1) (va_cons (vv 4) va_nil)))))) (vw_or (vt_ne hr (ve_ix (vv 4) ve_int) (vv 2)) (vw_or1 (vt_not (vt_val (ve_call (g_does_top.mono (by decide)) hr tk rfl (va_cons (ve_ix (vv 4) (ve_neg ve_int)) (va_cons (vv 3) va_nil))))))))) (vss_one (vs_ret ve_bl)) vss_nil)
    (vss_one (vs_ret (ve_not (ve_any B rfl rfl (va_cons (ve_lc rfl sc_is_climb.nd (own := [("row", 5)]) (T := (.one 5)) (blkOk_by (N := N_is_climb) (sc := defScope S_is_climb) (by decide +kernel)) (by decide) (vj_seq (ve_slice (vv 4) vo_none (vo_some (ve_neg ve_int)))) fun s H C cl fp => ⟨(vg_one sc_is_climb.nd (i := 5) rfl (by first | exact .inl rfl | exact .inr rfl)), vts_nil, (ve_call (g_does_top.mono (by decide)) hr takes0 rfl (va_cons (vv 5) (va_cons (vv 3) va_nil)))⟩) va_nil))))))), fun ds Qd Ed h => ?_⟩) hm (fun _ _ _ _ _ _ us hl => match us, hl with | [_, _, _, _, _], _ => rfl) (fun n hn kV doc pm an cdv ct us ws h1 h2 => by
    simp only [List.mem_cons, List.not_mem_nil, or_false] at hn
    subst hn
    exact match us, ws, h1, h2 with | [_, _, _, _], [_], _, _ => rfl)
  obtain ⟨u, v, x, y, z, rfl, hu, hv, hx, hy, hz, hq⟩ := h
  refine at_start (Γ := [SV.d _, SV.d _, SV.d _, SV.d _, SV.d _, SV.un]) rfl ?_
  walk_at "rd0"
  refine ⟨u, v, x, y, rfl, hu, hv, hx, hy, ckB_mono hq fun r b e1 e2 hr hb h1 => ckS_mono h1 fun s e3 hs h2 => ckH_mono h2 fun top e4 ht h3 => ?_⟩
  subst e1
  subst e2
  subst e3
  subst e4
  walk_at "rd0"
  refine ⟨r, b, z, rfl, hz, ?_⟩
  walk_at "rd0"
  cases ha : anyWay r b z with
  | false =>
    have e : isClimb r b s top z = false := by
      unfold isClimb
      rw [ha]
      rfl
    rw [e] at h3
    walk_at "rd0"
    exact h3
  | true =>
    obtain ⟨l, rfl, hne, hl, hp⟩ := anyWay_is ha
    have hlen := hz.2.2 _ rfl
    rw [List.length_map] at hlen
    obtain ⟨c, l', rfl⟩ : ∃ c l', l = c :: l' := by
      cases l with
      | nil => exact absurd rfl hne
      | cons c l' => exact ⟨c, l', rfl⟩
    obtain ⟨d, hd⟩ : ∃ d, (c :: l').getLast? = some d := ⟨_, List.getLast?_eq_some_getLast (by simp)⟩
    have last : atI ((c :: l').map eS) (-1) = some (eS d) := atI_last (by rw [List.getLast?_map, hd]; rfl)
    rw [isClimb_tup ha rfl hd] at h3
    walk_at "rd0"
    cases e1 : decide (c = s) with
    | false =>
      rw [e1] at h3
      walk_at "rd0"
      exact h3
    | true =>
      rw [e1, Bool.true_and] at h3
      walk_at "rd0"
      refine r_ixT rfl last ?_
      walk_at "rd0"
      refine ⟨d, top, rfl, ?_⟩
      walk_at "rd0"
      cases e2 : tops d top with
      | false =>
        rw [e2] at h3
        walk_at "rd0"
        exact h3
      | true =>
        rw [e2, Bool.true_and] at h3
        walk_at "rd0"
        rw [cut_butlast]
        refine lc_mapE (f := fun x => .bool (tops x top)) (fun x hx => ⟨_, rfl, fun R hR => ?_⟩) (by rw [List.length_dropLast]; omega) ?_
        · walk_at "rd0"
          exact ⟨x, top, rfl, hR⟩
        · walk_at "rd0"
          refine r_any rfl (boolsD_map _ _) ?_
          rw [List.any_map]
          walk_at "rd0"
          exact h3

theorem fv__law_top (F : FnP K "_law_top" S__law_top f fd) (hm : mg "_law_top" = some (.ref f)) (B : Blt mg) (g__law_levels : FnV P w K mg base 2 "_law_levels" ["_law_rows", "_law_begin"] [] (sp__law_levels)) (g_fewest_moves : FnV P w K mg base 9 "fewest_moves" ["rock", "body", "start", "top"] [0] (sp_fewest_moves ec)) (g_climb : FnV P w K mg base 9 "climb" ["rock", "body", "start", "top"] [0] (sp_climb ec)) (g__law_climb : FnV P w K mg base 2 "_law_climb" ["_law_rows", "_law_begin", "_law_top_here", "_law_value_here"] [] (sp__law_climb)) (g__law_is : FnV P w K mg base 1 "_law_is" ["_law_found", "_law_expected"] [] (sp__law_is)) (g_is_climb : FnV P w K mg base 9 "is_climb" ["rock", "body", "start", "top", "value"] [4] (sp_is_climb ec)) : FnV P w K mg base 10 "_law_top" ["_law_rock_here", "_law_body_here", "_law_rows", "_law_start_here", "_law_top_here"] [] (sp__law_top9 ec) := by
  refine fnV_mk F (fn_ok F sc__law_top _ (fun tw ds Q E h => by obtain ⟨r, b, s, top, rfl, _⟩ := h; rfl) fun cdv A outer s H E tw hr tk po => ⟨_, (vss_cons (vs_set (i := 5) sc__law_top.nd rfl (by first | exact .inl rfl | exact .inr rfl) (ve_call (g__law_levels.mono (by decide)) hr tk rfl (va_cons (vv 2) (va_cons (vv 3) va_nil))))
    (vss_cons (vs_setLc (i := 6) rfl sc__law_top.nd rfl rfl (own := [("_law_row", 7)]) (T := (.one 7)) (blkOk_by (N := N__law_top) (sc := defScope S__law_top) (by decide +kernel)) (by decide) (VI.vj (vi_keys (vv 5))) fun s H C cl fp => ⟨(vg_one sc__law_top.nd (i := 7) rfl (by first | exact .inl rfl | exact .inr rfl)), (vts_one (vt_in hr (vv 4) (ve_slice (vv 7) vo_none (vo_some ve_int)))), (ve_dget hr (vv 5) (vv 7))⟩)
    (vss_cons (vs_set (i := 8) sc__law_top.nd rfl (by first | exact .inl rfl | exact .inr rfl) (ve_if (vt_ne hr (vv 6) (ve_lst va_nil)) (ve_minL B rfl hr rfl (va_cons (vv 6) va_nil)) ve_non))
    (vss_cons (vs_if (vt_ne hr (ve_callK0 (g_fewest_moves.mono (by decide)) (by decide) hr tk rfl (vk_cons (vv 0) (vk_cons (vv 1) (vk_cons (vv 3) (vk_cons (vv 4) vk_nil))))) (vv 8)) (vss_one (vs_ret ve_bl)) vss_nil)
    (vss_cons (vs_set (i := 9) sc__law_top.nd rfl (by first | exact .inl rfl | exact .inr rfl) (ve_callK0 (g_climb.mono (by decide)) (by decide) hr tk rfl (vk_cons (vv 0) (vk_cons (vv 1) (vk_cons (vv 3) (vk_cons (vv 4) vk_nil))))))
    (vss_cons (vs_if (vt_ne hr (ve_is (vv 9) ve_non) (ve_is (vv 8) ve_non)) (vss_one (vs_ret ve_bl)) vss_nil)
    (vss_cons (vs_if (vt_isNot (vv 9) ve_non) (vss_one (vs_if (PW.pt (vw_or (vt_ne hr (ve_sub (ve_len B rfl (va_cons (vv 9) va_nil)) ve_int) (vv 8)) (vw_or1 (vt_not (vt_val (ve_call (g__law_climb.mono (by decide)) hr tk rfl (va_cons (vv 2) (va_cons (vv 3) (va_cons (vv 4) (va_cons (vv 9) va_nil)))))))))) (vss_one (vs_ret ve_bl)) vss_nil)) vss_nil)
    (vss_cons (vs_set (i := 10) sc__law_top.nd rfl (by first | exact .inl rfl | exact .inr rfl) (ve_if (vt_isNot (vv 9) ve_non) (vv 9) (ve_tup (va_cons (vv 3) va_nil))))
    (vss_cons (vs_for (T := (.one 11)) po rfl (vi_seq (ve_tup (va_cons (vv 10) (va_cons (ve_slice (vv 10) vo_none (vo_some (ve_neg ve_int))) (va_cons (ve_slice (vv 10) (vo_some ve_int) vo_none) (va_cons (ve_addP (vv 10) (ve_slice (vv 10) (vo_some (ve_neg ve_int)) (vo_some (ve_neg ve_int)))) (va_cons (ve_mulP (vv 10) ve_int) (va_cons (ve_tup (va_cons (vv 3) va_nil)) (va_cons (ve_tup va_nil) va_nil))))))))) (vg_one sc__law_top.nd (i := 11) rfl (by first | exact .inl rfl | exact .inr rfl)) (vss_cons (vs_set (i := 12) sc__law_top.nd rfl (by first | exact .inl rfl | exact .inr rfl) (ve_call (g__law_climb.mono (by decide)) hr tk rfl (va_cons (vv 2) (va_cons (vv 3) (va_cons (vv 4) (va_cons (vv 11) va_nil))))))
    (vss_one (vs_if (vt_not (vt_val (ve_call (g__law_is.mono (by decide)) hr tk rfl (va_cons (ve_callK 4 (g_is_climb.mono (by decide)) (by decide) hr tk rfl (va_cons (vv 0) (va_cons (vv 1) (va_cons (vv 3) (va_cons (vv 4) va_nil)))) (vk_cons (vv 11) vk_nil)) (va_cons (vv 12) va_nil))))) (vss_one (vs_ret ve_bl)) vss_nil))))
    (vss_cons (vs_for (T := (.one 13)) po rfl (vi_seq (ve_tup (va_cons ve_non (va_cons (ve_list B rfl (va_cons (vv 10) va_nil)) (va_cons (ve_tup (va_cons (vv 3) (va_cons ve_non va_nil))) (va_cons (ve_tup (va_cons (ve_slice (vv 3) vo_none (vo_some ve_int)) va_nil)) (va_cons ve_int va_nil))))))) (vg_one sc__law_top.nd (i := 13) rfl (by first | exact .inl rfl | exact .inr rfl)) (vss_one (vs_if (vt_not (vt_val (ve_call (g__law_is.mono (by decide)) hr tk rfl (va_cons (ve_call (g_is_climb.mono (by decide)) hr tk rfl (va_cons (vv 0) (va_cons (vv 1) (va_cons (vv 3) (va_cons (vv 4) (va_cons (vv 13) va_nil)))))) (va_cons ve_bl va_nil))))) (vss_one (vs_ret ve_bl)) vss_nil)))
    (vss_one (vs_ret ve_bl)))))))))))), fun ds Qd Ed h => ?_⟩) hm (fun _ _ _ _ _ _ us hl => match us, hl with | [_, _, _, _, _], _ => rfl) (fun n hn => absurd hn (List.not_mem_nil))
  obtain ⟨r, b, s, top, rfl, hr, h5, hb, hs, ht, hq⟩ := h
  have hfew := hr.few
  have glen := good_len5 r b h5
  refine at_start (Γ := [SV.d _, SV.d _, SV.d _, SV.d _, SV.d _, SV.un, SV.un, SV.un, SV.un, SV.un, SV.un, SV.un, SV.un, SV.un]) rfl ?_
  walk_at "rdv"
  refine ⟨goodS r b, s, rfl, by omega, (fun z hz => by rw [(mem_good.mp hz).1]; decide), hs, fun ks hks => ?_⟩
  have kl := nodup_leG hks.nd hks.inR
  walk_at "rdv"
  refine lc_filter0 (enc := tupK) (as := ks) (p := fun k => tops k top) (f := dvP (goodS r b) s) (fun k hk => ⟨_, rfl, fun Q hQ => ?_, fun hkt R hR => ?_⟩) (by omega) ?_
  · rw [show tupK k = eS k from rfl]
    walk_at "rdv"
    exact hQ
  · rw [show tupK k = eS k from rfl]
    walk_at "rdv"
    refine r_dgetM hk ?_
    exact hR
  walk_at "rdv"
  refine r_neL0D (ks := ks.filter fun k => tops k top) rfl ?_
  rw [hks.topd, Bool.not_not]
  cases e : topd (goodS r b) s top with
  | none =>
    refine r_tst (r_f (k := (none : Option Nat).isSome) rfl ?_)
    walk_at "rdv"
    refine r_neSame (d := .none) (by rw [e]; rfl) rfl rfl (Nat.zero_le _) ?_
    walk_at "rdv"
    refine u_climb fun o ho => ?_
    rw [climbO_none ho e]
    walk_at "rdv"
    have hLg : ∀ x ∈ [s], x ∈ goodS r b := fun x hx => by
      obtain rfl : x = s := by simpa using hx
      exact hs
    have hLl : [s].length ≤ 625 := by simp
    refine for_okD (fun Γ => ∃ a11 a12 : Option D, Γ = [.d (.p (eR r)), .d (.p (eB b)), .d (.p (.list ((goodS r b).map eS))), .d (.p (eS s)), .d (dI top), .d (.fz ks (ks.map (dvP (goodS r b) s))), .d (.p (.list ((ks.filter fun k => tops k top).map (dvP (goodS r b) s)))), .un, .d (.p (eN none)), .d (.p (eW none)), .d (.p (.tuple ([s].map eS))), sd a11, sd a12, .un]) ⟨none, none, rfl⟩ (fun y hy Γ hS => ?_) fun Γ hS => ?_
    · obtain ⟨a11, a12, rfl⟩ := hS
      have hG : GoodT r b y := by
        simp only [List.mem_cons, List.not_mem_nil, or_false] at hy
        rcases hy with rfl | rfl | rfl | rfl | rfl | rfl | rfl
        · exact goodT_self hLg hLl
        · exact goodT_cut hLg hLl _ _
        · exact goodT_cut hLg hLl _ _
        · exact goodT_app hLg hLl _ _
        · exact goodT_rep hLg hLl
        · exact goodT_one hs
        · exact goodT_nil
      obtain ⟨l', rfl, hg', hl'⟩ := hG
      have hz : OkV (.tuple (l'.map eS)) := okV_rows hl'
      refine ⟨_, rfl, fun N hN => ?_⟩
      walk_at "rdv"
      refine ⟨r, b, s, top, l', rfl, hfew, hg', hl', ?_⟩
      walk_at "rdv"
      refine use_is (climb_isB hg') ?_
      walk_at "rdv"
      exact hN _ ⟨some _, some _, rfl⟩
    obtain ⟨a11, a12, rfl⟩ := hS
    walk_at "rdv"
    refine for_okD (fun Γ => ∃ a13 : Option D, Γ = [.d (.p (eR r)), .d (.p (eB b)), .d (.p (.list ((goodS r b).map eS))), .d (.p (eS s)), .d (dI top), .d (.fz ks (ks.map (dvP (goodS r b) s))), .d (.p (.list ((ks.filter fun k => tops k top).map (dvP (goodS r b) s)))), .un, .d (.p (eN none)), .d (.p (eW none)), .d (.p (.tuple ([s].map eS))), sd a11, sd a12, sd a13]) ⟨none, rfl⟩ (fun y hy Γ hS => ?_) fun Γ hS => ?_
    · obtain ⟨a13, rfl⟩ := hS
      have hB : BadC r b s top y := by
        simp only [List.mem_cons, List.not_mem_nil, or_false] at hy
        rcases hy with rfl | rfl | rfl | rfl | rfl
        · exact badC_none
        · exact badC_list _
        · exact badC_pair _
        · exact badC_three (mem_good.mp hs).1
        · exact badC_int _
      obtain ⟨hz, hB⟩ := hB
      refine ⟨_, rfl, fun N hN => ?_⟩
      walk_at "rdv"
      rw [hB]
      refine use_is rfl ?_
      walk_at "rdv"
      exact hN _ ⟨some _, rfl⟩
    obtain ⟨a13, rfl⟩ := hS
    walk_at "rdv"
    exact hq
  | some m =>
    obtain ⟨k0, l0, hkl⟩ : ∃ k0 l0, (ks.filter fun k => tops k top) = k0 :: l0 := by
      cases h : ks.filter fun k => tops k top with
      | cons a l => exact ⟨a, l, rfl⟩
      | nil =>
        have := hks.topd (top := top)
        rw [h, e] at this
        cases this
    refine r_tst (r_t (k := (some m : Option Nat).isSome) rfl ?_)
    walk_at "rdv"
    refine r_minT hks hkl rfl ?_
    rw [e]
    walk_at "rdv"
    rw [e]
    walk_at "rdv"
    rw [decide_eq_true rfl]
    walk_at "rdv"
    refine u_climb fun o ho => ?_
    obtain ⟨l, g, rfl, hp, hgt, rfl⟩ := climbO_some ho e
    have hlr := hp.short.lt_rows hs
    have hLg : ∀ x ∈ l, x ∈ goodS r b := hp.inr
    have hLn : l ≠ [] := fun z => by
      have := hp.hd
      rw [z] at this
      cases this
    have hLl : l.length ≤ 625 := by omega
    have hpos : 0 < l.length := List.length_pos_iff.mpr hLn
    walk_at "rdv"
    refine r_f rfl ?_
    walk_at "rdv"
    have hle : (((l.map eS).length : Int) - 1 = ((l.length - 1 : Nat) : Int)) := by rw [List.length_map]; omega
    have hcl : climbB s top l = true := by rw [← climb_isB hLg]; exact spath_climb hp hgt e
    rw [decide_eq_true hle]
    walk_at "rdv"
    refine ⟨r, b, s, top, l, rfl, hfew, hLg, by omega, ?_⟩
    rw [hcl]
    walk_at "rdv"
    have hcut := cut_one l
    refine r_addT rfl rfl (by rw [List.length_map]; omega) ?_
    walk_at "rdv"
    refine r_mulT (ps := l.map eS) rfl (by simpa using hLn) (by decide) (by decide) (by rw [List.length_map]; omega) ?_
    walk_at "rdv"
    refine for_okD (fun Γ => ∃ a11 a12 : Option D, Γ = [.d (.p (eR r)), .d (.p (eB b)), .d (.p (.list ((goodS r b).map eS))), .d (.p (eS s)), .d (dI top), .d (.fz ks (ks.map (dvP (goodS r b) s))), .d (.p (.list ((ks.filter fun k => tops k top).map (dvP (goodS r b) s)))), .un, .d (.p (eN (some (l.length - 1)))), .d (.p (eW (some l))), .d (.p (.tuple (l.map eS))), sd a11, sd a12, .un]) ⟨none, none, rfl⟩ (fun y hy Γ hS => ?_) fun Γ hS => ?_
    · obtain ⟨a11, a12, rfl⟩ := hS
      have hG : GoodT r b y := by
        simp only [List.mem_cons, List.not_mem_nil, or_false] at hy
        rcases hy with rfl | rfl | rfl | rfl | rfl | rfl | rfl
        · exact goodT_self hLg hLl
        · exact goodT_cut hLg hLl _ _
        · exact goodT_cut hLg hLl _ _
        · exact goodT_app hLg hLl _ _
        · exact goodT_rep hLg hLl
        · exact goodT_one hs
        · exact goodT_nil
      obtain ⟨l', rfl, hg', hl'⟩ := hG
      have hz : OkV (.tuple (l'.map eS)) := okV_rows hl'
      refine ⟨_, rfl, fun N hN => ?_⟩
      walk_at "rdv"
      refine ⟨r, b, s, top, l', rfl, hfew, hg', hl', ?_⟩
      walk_at "rdv"
      refine use_is (climb_isB hg') ?_
      walk_at "rdv"
      exact hN _ ⟨some _, some _, rfl⟩
    obtain ⟨a11, a12, rfl⟩ := hS
    walk_at "rdv"
    refine for_okD (fun Γ => ∃ a13 : Option D, Γ = [.d (.p (eR r)), .d (.p (eB b)), .d (.p (.list ((goodS r b).map eS))), .d (.p (eS s)), .d (dI top), .d (.fz ks (ks.map (dvP (goodS r b) s))), .d (.p (.list ((ks.filter fun k => tops k top).map (dvP (goodS r b) s)))), .un, .d (.p (eN (some (l.length - 1)))), .d (.p (eW (some l))), .d (.p (.tuple (l.map eS))), sd a11, sd a12, sd a13]) ⟨none, rfl⟩ (fun y hy Γ hS => ?_) fun Γ hS => ?_
    · obtain ⟨a13, rfl⟩ := hS
      have hB : BadC r b s top y := by
        simp only [List.mem_cons, List.not_mem_nil, or_false] at hy
        rcases hy with rfl | rfl | rfl | rfl | rfl
        · exact badC_none
        · exact badC_list _
        · exact badC_pair _
        · exact badC_three (mem_good.mp hs).1
        · exact badC_int _
      obtain ⟨hz, hB⟩ := hB
      refine ⟨_, rfl, fun N hN => ?_⟩
      walk_at "rdv"
      rw [hB]
      refine use_is rfl ?_
      walk_at "rdv"
      exact hN _ ⟨some _, rfl⟩
    obtain ⟨a13, rfl⟩ := hS
    walk_at "rdv"
    exact hq

theorem ok_law {fb : Addr} {fdb : FuncData} {P_law : Addr} (F : FnP K "law" S_law f fd) (B : Blt mg) (Fb : FnP K "_law_begun" S__law_begun fb fdb) (hmb : mg "_law_begun" = some (.ref fb)) {fr : Addr} {fdr : FuncData} (F_res : FnP K "_law_result" S__law_result fr fdr) (m_res : mg "_law_result" = some (.ref fr)) (RC : ResC K mg ec) (EC : ∀ q ∈ errNames, ErrC K ec q.1 (ec q.1)) (L_law : LamT base mg [(P_law, "law" ++ ".<locals>." ++ "<lambda>")] ("law" ++ ".<locals>." ++ "<lambda>") fd.code P_law) (g__law_body : FnV P w K mg base 2 "_law_body" ["_law_script", "_law_town"] [] (sp__law_body K)) (g__law_rock : FnV P w K mg base 2 "_law_rock" ["_law_script", "_law_town", "_law_most"] [] (sp__law_rock K)) (g__law_all : FnV P w K mg base 2 "_law_all" ["_law_holds", "_law_parts"] [] (sp__law_all)) (g__law_draw : FnV P w K mg base 1 "_law_draw" ["_law_script", "_law_town", "_law_many"] [] (sp__law_draw K)) (g__law_top : FnV P w K mg base 10 "_law_top" ["_law_rock_here", "_law_body_here", "_law_rows", "_law_start_here", "_law_top_here"] [] (sp__law_top9 ec)) (g_climb : FnV P w K mg base 9 "climb" ["rock", "body", "start", "top"] [0] (sp_climb ec)) (g_fewest_moves : FnV P w K mg base 9 "fewest_moves" ["rock", "body", "start", "top"] [0] (sp_fewest_moves ec)) (g_is_climb : FnV P w K mg base 9 "is_climb" ["rock", "body", "start", "top", "value"] [4] (sp_is_climb ec)) : FnOk P w K mg base (L2.CX P w) 12 f fd ["_law_script"] (spLawT K [(P_law, "law" ++ ".<locals>." ++ "<lambda>")]) := by
  refine law_okT2 (k := 11) [(P_law, "law" ++ ".<locals>." ++ "<lambda>")] F sc_law L_law (fun cdv A outer s H E hr => ps_set (i := 1) sc_law.nd rfl (by first | exact .inl rfl | exact .inr rfl) (pe_callS0 ((ok_begun Fb).mono (by decide)) hr rfl hmb Fb.kp (Fb.bindsN fun _ _ _ _ _ _ us hl => match us, hl with | [], _ => rfl) (fun σ => passAt (takes_of rfl rfl rfl rfl) σ))) fun cdv A outer s H E t r LT hr tk po => ⟨_, (have htw : town t r [(P_law, "law" ++ ".<locals>." ++ "<lambda>")] = town t r [(P_law, "law" ++ ".<locals>." ++ "<lambda>")] := rfl; have mgr_climb := adr_some g_climb; have mgr_fewest_moves := adr_some g_fewest_moves; (vss_cons (vs_for (T := (.one 2)) po rfl (vi_range B rfl (va_cons ve_int va_nil)) (vg_one sc_law.nd (i := 2) rfl (by first | exact .inl rfl | exact .inr rfl)) (vss_cons (vs_unp (T := (.many [3, 4])) (ve_tup (va_cons (ve_call (g__law_rock.mono (by decide)) hr tk rfl (va_cons (vv 0) (va_cons (vv 1) (va_cons ve_int va_nil)))) (va_cons (ve_call (g__law_body.mono (by decide)) hr tk rfl (va_cons (vv 0) (va_cons (vv 1) va_nil))) va_nil))) (vg_many (is := [3, 4]) rfl (pgs_cons (pg_name sc_law.nd (i := 3) rfl (by first | exact .inl rfl | exact .inr rfl) (by first | exact .inl rfl | exact .inr rfl)) (pgs_cons (pg_name sc_law.nd (i := 4) rfl (by first | exact .inl rfl | exact .inr rfl) (by first | exact .inl rfl | exact .inr rfl)) pgs_nil))))
    (vss_cons (vs_set (i := 5) sc_law.nd rfl (by first | exact .inl rfl | exact .inr rfl) (ve_call (g__law_all.mono (by decide)) hr tk rfl (va_cons (vv 3) (va_cons (vv 4) va_nil))))
    (vss_one (vs_if (vt_ne hr (vv 5) (ve_lst va_nil)) (vss_cons (vs_set (i := 6) sc_law.nd rfl (by first | exact .inl rfl | exact .inr rfl) (ve_ix (vv 5) (ve_call (g__law_draw.mono (by decide)) hr tk rfl (va_cons (vv 0) (va_cons (vv 1) (va_cons (ve_len B rfl (va_cons (vv 5) va_nil)) va_nil))))))
    (vss_cons (vs_if (vt_not (vt_val (ve_call (g__law_top.mono (by decide)) hr tk rfl (va_cons (vv 3) (va_cons (vv 4) (va_cons (vv 5) (va_cons (vv 6) (va_cons (ve_call (g__law_draw.mono (by decide)) hr tk rfl (va_cons (vv 0) (va_cons (vv 1) (va_cons (ve_len B rfl (va_cons (vv 3) va_nil)) va_nil)))) va_nil)))))))) (vss_one (vs_ret ve_bl)) vss_nil)
    (vss_cons (vs_forF po rfl (pa_fcons (v := .ref (adr mg "climb")) rfl (mgr_climb) rfl (pa_fcons (v := .ref (adr mg "fewest_moves")) rfl (mgr_fewest_moves) rfl pa_fnil)) (by simp) sc_law.nd (i := 7) rfl (by first | exact .inl rfl | exact .inr rfl) (by first | exact .inl rfl | exact .inr rfl) (vss_cons (vs_own (i := 8) sc_law.nd rfl (by first | exact .inl rfl | exact .inr rfl) (ve_lst (va_cons (ve_res F_res m_res B RC EC LT htw hr rfl (lamB (sc := defScope S_law) (by decide +kernel)) rfl (fun _ _ _ _ _ => rfl) fun A outer s H E f c2 hr tk => (ve_callD (i := 7) (mg := mg) rfl (fns_cons (g_climb.mono (by decide)) (fns_cons (g_fewest_moves.mono (by decide)) fns_nil)) hr tk rfl (by first | exact Or.inl rfl | exact Or.inr (Or.inl rfl) | exact Or.inr (Or.inr rfl)) (va_cons (vv 3) (va_cons (vv 4) (va_cons ve_non (va_cons ve_non va_nil)))))) va_nil)))
    (vss_cons (vs_for (T := (.one 9)) po rfl (vi_seq (ve_tup (va_cons ve_non (va_cons (ve_neg ve_int) (va_cons (ve_len B rfl (va_cons (vv 3) va_nil)) (va_cons ve_bl va_nil)))))) (vg_one sc_law.nd (i := 9) rfl (by first | exact .inl rfl | exact .inr rfl)) (vss_one (vs_append (i := 8) (pv 8) (ve_res F_res m_res B RC EC LT htw hr rfl (lamB (sc := defScope S_law) (by decide +kernel)) rfl (fun _ _ _ _ _ => rfl) fun A outer s H E f c2 hr tk => (ve_callD (i := 7) (mg := mg) rfl (fns_cons (g_climb.mono (by decide)) (fns_cons (g_fewest_moves.mono (by decide)) fns_nil)) hr tk rfl (by first | exact Or.inl rfl | exact Or.inr (Or.inl rfl) | exact Or.inr (Or.inr rfl)) (va_cons (vv 3) (va_cons (vv 4) (va_cons (vv 6) (va_cons (vv 9) va_nil)))))))))
    (vss_one (vs_if (vt_ne hr (vv 8) (ve_addP (ve_lst (va_cons (ve_tup (va_cons ve_str va_nil)) va_nil)) (ve_mulP (ve_lst (va_cons (ve_tup (va_cons ve_str va_nil)) va_nil)) ve_int))) (vss_one (vs_ret ve_bl)) vss_nil)))))
    (vss_one (vs_if (vt_ne hr (ve_res F_res m_res B RC EC LT htw hr rfl (lamB (sc := defScope S_law) (by decide +kernel)) rfl (fun _ _ _ _ _ => rfl) fun A outer s H E f c2 hr tk => (ve_call (g_is_climb.mono (by decide)) hr tk rfl (va_cons (vv 3) (va_cons (vv 4) (va_cons (vv 6) (va_cons ve_int (va_cons (ve_tup va_nil) va_nil))))))) (ve_tup (va_cons ve_str va_nil))) (vss_one (vs_ret ve_bl)) vss_nil))))) vss_nil)))))
    (vss_one (vs_ret ve_bl)))), fun u v hT => ?_⟩
  refine at_start (Γ := [.d u, .d v, .un, .un, .un, .un, .un, .un, .un, .un]) rfl ?_
  walk_at "rdv"
  refine for_ok (enc := fun (i : Nat) => .int (i : Int)) (as := List.range (Int.toNat 4)) (fun Γ => ∃ (a2 a3 a4 a5 a6 a7 a9 : Option D) (x8 : SV), Γ = [.d u, .d v, sd a2, sd a3, sd a4, sd a5, sd a6, sd a7, x8, sd a9]) ⟨none, none, none, none, none, none, none, _, rfl⟩ (fun n _ Γ hI => ?_) fun Γ hI => ?_
  · obtain ⟨a2, a3, a4, a5, a6, a7, a9, x8, rfl⟩ := hI
    refine ⟨_, rfl, fun N hN _ => ?_⟩
    walk_at "rdv"
    refine ⟨u, v, 5, rfl, hT, by decide, by decide, fun r hR h1 h5 => ?_⟩
    have hr := hR.ok h1 (by omega)
    have hfew := hr.few
    walk_at "rdv"
    refine ⟨u, v, rfl, hT, fun b b1 b2 b3 b4 b5 b6 b7 b8 => ?_⟩
    have hb : BodyOk b := by unfold BodyOk; omega
    walk_at "rdv"
    refine ⟨r, b, rfl, hfew, ?_⟩
    have glen := good_len5 r b (by omega)
    walk_at "rdv"
    refine r_neL0 (a := goodS r b) rfl ?_
    walk_at "rdv"
    cases e0 : (goodS r b).isEmpty with
    | true =>
      refine r_f (by rfl) ?_
      walk_at "rdv"
      exact hN _ ⟨some _, some _, some _, some _, a6, a7, a9, x8, rfl⟩
    | false =>
      have hne : goodS r b ≠ [] := fun e => by rw [e] at e0; cases e0
      have hpos : 0 < (goodS r b).length := List.length_pos_iff.mpr hne
      refine r_t (by rfl) ?_
      walk_at "rdv"
      refine ⟨u, v, _, rfl, hT, by rw [List.length_map]; omega, by rw [List.length_map]; omega, fun z z0 z1 => ?_⟩
      obtain ⟨s, hs, hat⟩ := pick z0 z1
      refine r_ixL rfl hat ?_
      walk_at "rdv"
      refine ⟨u, v, _, rfl, hT, by rw [List.length_map]; omega, by rw [List.length_map]; omega, fun top t0 t1 => ?_⟩
      rw [List.length_map] at t1
      have ht : InR r top := ⟨t0, t1⟩
      walk_at "rdv"
      refine ⟨r, b, s, top, rfl, hr, by omega, hb, hs, ht, ?_⟩
      walk_at "rdv"
      refine ⟨_, _, _, _, rfl, plain_eR r, plain_eB b, rfl, rfl, use_ckB hr hb (e_pose ?_)⟩
      walk_at "rdv"
      refine for_inv (enc := id) (as := [PyData.none, .int (-1), .int ((r.map eH).length : Int), .bool true]) (i := 0) (fun j Γ => ∃ a9 : Option D, Γ = [.d u, .d v, .d (.p (.int n)), .d (.p (eR r)), .d (.p (eB b)), .d (.p (.list ((goodS r b).map eS))), .d (.p (eS s)), .d (.r (.ref (adr mg "climb"))), .o (.p (.list ([wS "pose"] ++ List.replicate j (wS "grip")))), sd a9]) ⟨a9, rfl⟩ (fun j x Γ hk hI => ?_) fun Γ hI => ?_
      · obtain ⟨a9, rfl⟩ := hI
        rw [Nat.zero_add]
        have hx := List.mem_of_getElem? hk
        have hj : j < 4 := by
          by_cases q : j < 4
          · exact q
          · rw [List.getElem?_eq_none (by exact Nat.le_of_not_lt q)] at hk
            cases hk
        have hx2 : x.plain = true ∧ btw x 0 (r.length - 1) = false := by
          simp only [List.mem_cons, List.not_mem_nil, or_false] at hx
          rcases hx with rfl | rfl | rfl | rfl
          · exact ⟨rfl, rfl⟩
          · exact ⟨rfl, rfl⟩
          · exact ⟨rfl, btw_hi r⟩
          · exact ⟨rfl, rfl⟩
        refine ⟨_, rfl, fun N hN => ?_⟩
        walk_at "rdv"
        refine r_app rfl (by rw [List.length_append, List.length_replicate]; show 1 + j < 100000; omega) ?_
        walk_at "rdv"
        refine ⟨_, _, _, _, rfl, plain_eR r, plain_eB b, plain_eS s, hx2.1, use_ckB hr hb (use_ckS hs (e_hold ?_ hx2.2))⟩
        walk_at "rdv"
        refine hN _ ⟨some (.p x), ?_⟩
        rw [List.replicate_succ', ← List.append_assoc]
        rfl
      obtain ⟨a9, rfl⟩ := hI
      walk_at "rdv"
      refine q_mulL ?_
      walk_at "rdv"
      refine r_neSame (d := .list ([wS "pose"] ++ List.replicate 4 (wS "grip"))) rfl rfl rfl (Nat.le_trans (depth_lst (n := 1) fun z hz => ?_) (by decide)) ?_
      · rcases List.mem_append.mp hz with h | h
        · simp only [List.mem_cons, List.not_mem_nil, or_false] at h
          rw [h]
          exact depth_wS _
        · rw [(List.mem_replicate.mp h).2]
          exact depth_wS _
      walk_at "rdv"
      refine ⟨_, _, _, _, rfl, plain_eR r, plain_eB b, rfl, rfl, use_ckB hr hb (e_pose ?_)⟩
      walk_at "rdv"
      refine for_inv (enc := id) (as := [PyData.none, .int (-1), .int ((r.map eH).length : Int), .bool true]) (i := 0) (fun j Γ => ∃ a9 : Option D, Γ = [.d u, .d v, .d (.p (.int n)), .d (.p (eR r)), .d (.p (eB b)), .d (.p (.list ((goodS r b).map eS))), .d (.p (eS s)), .d (.r (.ref (adr mg "fewest_moves"))), .o (.p (.list ([wS "pose"] ++ List.replicate j (wS "grip")))), sd a9]) ⟨a9, rfl⟩ (fun j x Γ hk hI => ?_) fun Γ hI => ?_
      · obtain ⟨a9, rfl⟩ := hI
        rw [Nat.zero_add]
        have hx := List.mem_of_getElem? hk
        have hj : j < 4 := by
          by_cases q : j < 4
          · exact q
          · rw [List.getElem?_eq_none (by exact Nat.le_of_not_lt q)] at hk
            cases hk
        have hx2 : x.plain = true ∧ btw x 0 (r.length - 1) = false := by
          simp only [List.mem_cons, List.not_mem_nil, or_false] at hx
          rcases hx with rfl | rfl | rfl | rfl
          · exact ⟨rfl, rfl⟩
          · exact ⟨rfl, rfl⟩
          · exact ⟨rfl, btw_hi r⟩
          · exact ⟨rfl, rfl⟩
        refine ⟨_, rfl, fun N hN => ?_⟩
        walk_at "rdv"
        refine r_app rfl (by rw [List.length_append, List.length_replicate]; show 1 + j < 100000; omega) ?_
        walk_at "rdv"
        refine ⟨_, _, _, _, rfl, plain_eR r, plain_eB b, plain_eS s, hx2.1, use_ckB hr hb (use_ckS hs (e_hold ?_ hx2.2))⟩
        walk_at "rdv"
        refine hN _ ⟨some (.p x), ?_⟩
        rw [List.replicate_succ', ← List.append_assoc]
        rfl
      obtain ⟨a9, rfl⟩ := hI
      walk_at "rdv"
      refine q_mulL ?_
      walk_at "rdv"
      refine r_neSame (d := .list ([wS "pose"] ++ List.replicate 4 (wS "grip"))) rfl rfl rfl (Nat.le_trans (depth_lst (n := 1) fun z hz => ?_) (by decide)) ?_
      · rcases List.mem_append.mp hz with h | h
        · simp only [List.mem_cons, List.not_mem_nil, or_false] at h
          rw [h]
          exact depth_wS _
        · rw [(List.mem_replicate.mp h).2]
          exact depth_wS _
      walk_at "rdv"
      refine ⟨_, _, _, _, _, rfl, plain_eR r, plain_eB b, plain_eS s, rfl, ⟨rfl, by decide, fun xs e => by cases e; decide⟩, use_ckB hr hb (use_ckS hs (e_hold ?_ (btw_big hfew (by decide))))⟩
      walk_at "rdv"
      exact hN _ ⟨some _, some _, some _, some _, some _, some _, a9, _, rfl⟩
  · obtain ⟨a2, a3, a4, a5, a6, a7, a9, x8, rfl⟩ := hI
    walk_at "rdv"
    rfl
end
end WL
set_option maxHeartbeats 0
namespace WL
open PySem PySem.Spec PyProof.Rows L2
theorem factsL {P : Program} {w : World} {K : PySem.W.Frag} {h : Heap} {mg : Str → Option Value} {f : Addr} (X : K.In h) (G : h.Ns mainGlobals mg) (hfa : mg ("law" : Str) = some (.ref f)) (cX : He.SaysX faL fnL [] tfL exL w h K) :
    ∃ fd : FuncData, (∀ (s : Shared) (v : Value), BindsTo s fd ⟨[v], []⟩ [("_law_script", v)]) ∧ ∀ base : Heap, K.In base → base.Ns mainGlobals mg → (∀ p ∈ tfL.map (He.cT K), LamX.TabB base mg p.1 p.2) → FnOk P w K mg base (L2.CX P w) 12 f fd ["_law_script"] (spLawT K [((He.cT K ("law", none)).2, "law" ++ ".<locals>." ++ "<lambda>")]) := by
  have c := cX.t.d
  obtain ⟨fd__law_draw, F__law_draw⟩ := c.def_ 30 (d := d__law_draw) rfl
  have m__law_draw := He.glo_ok X G (c.fact 30 (f := .glo "_law_draw") rfl)
  obtain ⟨fd__law_body, F__law_body⟩ := c.def_ 33 (d := d__law_body) rfl
  have m__law_body := He.glo_ok X G (c.fact 33 (f := .glo "_law_body") rfl)
  obtain ⟨fd__law_rock, F__law_rock⟩ := c.def_ 32 (d := d__law_rock) rfl
  have m__law_rock := He.glo_ok X G (c.fact 32 (f := .glo "_law_rock") rfl)
  obtain ⟨fd__law_kept, F__law_kept⟩ := c.def_ 34 (d := d__law_kept) rfl
  have m__law_kept := He.glo_ok X G (c.fact 34 (f := .glo "_law_kept") rfl)
  obtain ⟨fd__law_all, F__law_all⟩ := c.def_ 35 (d := d__law_all) rfl
  have m__law_all := He.glo_ok X G (c.fact 35 (f := .glo "_law_all") rfl)
  obtain ⟨fd__law_near, F__law_near⟩ := c.def_ 36 (d := d__law_near) rfl
  have m__law_near := He.glo_ok X G (c.fact 36 (f := .glo "_law_near") rfl)
  obtain ⟨fd__law_levels, F__law_levels⟩ := c.def_ 37 (d := d__law_levels) rfl
  have m__law_levels := He.glo_ok X G (c.fact 37 (f := .glo "_law_levels") rfl)
  obtain ⟨fd_is_between, F_is_between⟩ := c.def_ 0 (d := d_is_between) rfl
  have m_is_between := He.glo_ok X G (c.fact 0 (f := .glo "is_between") rfl)
  obtain ⟨fd_are_between, F_are_between⟩ := c.def_ 1 (d := d_are_between) rfl
  have m_are_between := He.glo_ok X G (c.fact 1 (f := .glo "are_between") rfl)
  obtain ⟨fd_is_hold, F_is_hold⟩ := c.def_ 2 (d := d_is_hold) rfl
  have m_is_hold := He.glo_ok X G (c.fact 2 (f := .glo "is_hold") rfl)
  obtain ⟨fd_is_rock, F_is_rock⟩ := c.def_ 3 (d := d_is_rock) rfl
  have m_is_rock := He.glo_ok X G (c.fact 3 (f := .glo "is_rock") rfl)
  obtain ⟨fd_check_rock, F_check_rock⟩ := c.def_ 5 (d := d_check_rock) rfl
  have m_check_rock := He.glo_ok X G (c.fact 5 (f := .glo "check_rock") rfl)
  obtain ⟨fd_is_body, F_is_body⟩ := c.def_ 4 (d := d_is_body) rfl
  have m_is_body := He.glo_ok X G (c.fact 4 (f := .glo "is_body") rfl)
  obtain ⟨fd_check_body, F_check_body⟩ := c.def_ 6 (d := d_check_body) rfl
  have m_check_body := He.glo_ok X G (c.fact 6 (f := .glo "check_body") rfl)
  obtain ⟨fd_check_both, F_check_both⟩ := c.def_ 7 (d := d_check_both) rfl
  have m_check_both := He.glo_ok X G (c.fact 7 (f := .glo "check_both") rfl)
  obtain ⟨fd_apart_by, F_apart_by⟩ := c.def_ 9 (d := d_apart_by) rfl
  have m_apart_by := He.glo_ok X G (c.fact 9 (f := .glo "apart_by") rfl)
  obtain ⟨fd_have_room, F_have_room⟩ := c.def_ 10 (d := d_have_room) rfl
  have m_have_room := He.glo_ok X G (c.fact 10 (f := .glo "have_room") rfl)
  obtain ⟨fd_are_sorted, F_are_sorted⟩ := c.def_ 11 (d := d_are_sorted) rfl
  have m_are_sorted := He.glo_ok X G (c.fact 11 (f := .glo "are_sorted") rfl)
  obtain ⟨fd_is_kept, F_is_kept⟩ := c.def_ 12 (d := d_is_kept) rfl
  have m_is_kept := He.glo_ok X G (c.fact 12 (f := .glo "is_kept") rfl)
  obtain ⟨fd_is_good_one, F_is_good_one⟩ := c.def_ 13 (d := d_is_good_one) rfl
  have m_is_good_one := He.glo_ok X G (c.fact 13 (f := .glo "is_good_one") rfl)
  obtain ⟨fd_check_stance, F_check_stance⟩ := c.def_ 14 (d := d_check_stance) rfl
  have m_check_stance := He.glo_ok X G (c.fact 14 (f := .glo "check_stance") rfl)
  obtain ⟨fd_check_all, F_check_all⟩ := c.def_ 17 (d := d_check_all) rfl
  have m_check_all := He.glo_ok X G (c.fact 17 (f := .glo "check_all") rfl)
  obtain ⟨fd_check_hold, F_check_hold⟩ := c.def_ 8 (d := d_check_hold) rfl
  have m_check_hold := He.glo_ok X G (c.fact 8 (f := .glo "check_hold") rfl)
  obtain ⟨fd_check_top, F_check_top⟩ := c.def_ 23 (d := d_check_top) rfl
  have m_check_top := He.glo_ok X G (c.fact 23 (f := .glo "check_top") rfl)
  obtain ⟨fd_changed, F_changed⟩ := c.def_ 15 (d := d_changed) rfl
  have m_changed := He.glo_ok X G (c.fact 15 (f := .glo "changed") rfl)
  obtain ⟨fd_next_stances, F_next_stances⟩ := c.def_ 16 (d := d_next_stances) rfl
  have m_next_stances := He.glo_ok X G (c.fact 16 (f := .glo "next_stances") rfl)
  obtain ⟨fd_ways_from, F_ways_from⟩ := c.def_ 18 (d := d_ways_from) rfl
  have m_ways_from := He.glo_ok X G (c.fact 18 (f := .glo "ways_from") rfl)
  obtain ⟨fd_does_top, F_does_top⟩ := c.def_ 22 (d := d_does_top) rfl
  have m_does_top := He.glo_ok X G (c.fact 22 (f := .glo "does_top") rfl)
  obtain ⟨fd_led_back, F_led_back⟩ := c.def_ 19 (d := d_led_back) rfl
  have m_led_back := He.glo_ok X G (c.fact 19 (f := .glo "led_back") rfl)
  obtain ⟨fd_found_climb, F_found_climb⟩ := c.def_ 24 (d := d_found_climb) rfl
  have m_found_climb := He.glo_ok X G (c.fact 24 (f := .glo "found_climb") rfl)
  obtain ⟨fd_fewest_moves, F_fewest_moves⟩ := c.def_ 26 (d := d_fewest_moves) rfl
  have m_fewest_moves := He.glo_ok X G (c.fact 26 (f := .glo "fewest_moves") rfl)
  obtain ⟨fd_climb, F_climb⟩ := c.def_ 25 (d := d_climb) rfl
  have m_climb := He.glo_ok X G (c.fact 25 (f := .glo "climb") rfl)
  obtain ⟨fd__law_climb, F__law_climb⟩ := c.def_ 38 (d := d__law_climb) rfl
  have m__law_climb := He.glo_ok X G (c.fact 38 (f := .glo "_law_climb") rfl)
  obtain ⟨fd__law_is, F__law_is⟩ := c.def_ 29 (d := d__law_is) rfl
  have m__law_is := He.glo_ok X G (c.fact 29 (f := .glo "_law_is") rfl)
  obtain ⟨fd_differ_in_one, F_differ_in_one⟩ := c.def_ 20 (d := d_differ_in_one) rfl
  have m_differ_in_one := He.glo_ok X G (c.fact 20 (f := .glo "differ_in_one") rfl)
  obtain ⟨fd_is_any_way, F_is_any_way⟩ := c.def_ 21 (d := d_is_any_way) rfl
  have m_is_any_way := He.glo_ok X G (c.fact 21 (f := .glo "is_any_way") rfl)
  obtain ⟨fd_is_climb, F_is_climb⟩ := c.def_ 27 (d := d_is_climb) rfl
  have m_is_climb := He.glo_ok X G (c.fact 27 (f := .glo "is_climb") rfl)
  obtain ⟨fd__law_top, F__law_top⟩ := c.def_ 39 (d := d__law_top) rfl
  have m__law_top := He.glo_ok X G (c.fact 39 (f := .glo "_law_top") rfl)
  obtain ⟨fd__law_begun, F__law_begun⟩ := c.def_ 31 (d := d__law_begun) rfl
  have m__law_begun := He.glo_ok X G (c.fact 31 (f := .glo "_law_begun") rfl)
  obtain ⟨fd_law, F_law⟩ := c.def_ 40 (d := d_law) rfl
  have m_law := He.glo_ok X G (c.fact 40 (f := .glo "law") rfl)
  obtain ⟨fd__law_result, F__law_result⟩ := c.def_ 28 (d := d__law_result) rfl
  have m__law_result := He.glo_ok X G (c.fact 28 (f := .glo "_law_result") rfl)
  have B : Blt mg := ⟨He.free_ok X G (c.fact 41 (f := .free "abs") rfl), He.free_ok X G (c.fact 42 (f := .free "all") rfl), He.free_ok X G (c.fact 43 (f := .free "any") rfl), He.free_ok X G (c.fact 44 (f := .free "bool") rfl), He.free_ok X G (c.fact 45 (f := .free "enumerate") rfl), He.free_ok X G (c.fact 46 (f := .free "int") rfl), He.free_ok X G (c.fact 47 (f := .free "isinstance") rfl), He.free_ok X G (c.fact 48 (f := .free "len") rfl), He.free_ok X G (c.fact 49 (f := .free "list") rfl), He.free_ok X G (c.fact 50 (f := .free "max") rfl), He.free_ok X G (c.fact 51 (f := .free "min") rfl), He.free_ok X G (c.fact 52 (f := .free "range") rfl), He.free_ok X G (c.fact 53 (f := .free "set") rfl), He.free_ok X G (c.fact 54 (f := .free "sorted") rfl), He.free_ok X G (c.fact 55 (f := .free "str") rfl), He.free_ok X G (c.fact 56 (f := .free "sum") rfl), He.free_ok X G (c.fact 57 (f := .free "tuple") rfl), He.free_ok X G (c.fact 58 (f := .free "zip") rfl)⟩
  have x_InvalidRock : ExcV K mg "InvalidRock" (He.ga K "InvalidRock") := by
    obtain ⟨h1, h2, h3, h4⟩ := He.exc_ok (c.fact 59 (f := .exc "InvalidRock") rfl)
    exact ⟨He.glo_ok X G (c.fact 63 (f := .glo "InvalidRock") rfl), h1, h2, h3, h4⟩
  have x_InvalidBody : ExcV K mg "InvalidBody" (He.ga K "InvalidBody") := by
    obtain ⟨h1, h2, h3, h4⟩ := He.exc_ok (c.fact 60 (f := .exc "InvalidBody") rfl)
    exact ⟨He.glo_ok X G (c.fact 64 (f := .glo "InvalidBody") rfl), h1, h2, h3, h4⟩
  have x_InvalidHold : ExcV K mg "InvalidHold" (He.ga K "InvalidHold") := by
    obtain ⟨h1, h2, h3, h4⟩ := He.exc_ok (c.fact 61 (f := .exc "InvalidHold") rfl)
    exact ⟨He.glo_ok X G (c.fact 65 (f := .glo "InvalidHold") rfl), h1, h2, h3, h4⟩
  have x_InvalidStance : ExcV K mg "InvalidStance" (He.ga K "InvalidStance") := by
    obtain ⟨h1, h2, h3, h4⟩ := He.exc_ok (c.fact 62 (f := .exc "InvalidStance") rfl)
    exact ⟨He.glo_ok X G (c.fact 66 (f := .glo "InvalidStance") rfl), h1, h2, h3, h4⟩
  have e := hfa.symm.trans m_law
  cases e
  have b := FunD.bindsA (ps := ["_law_script"]) F_law fun _ _ _ _ _ _ us hl => match us, hl with | [_], _ => rfl
  have RC : ResC K mg (He.ga K) := ⟨He.glo_ok X G (c.fact 68 (f := .glo "ClimbError") rfl), He.glo_ok X G (c.fact 69 (f := .glo "InvalidRock") rfl), He.glo_ok X G (c.fact 70 (f := .glo "InvalidBody") rfl), He.glo_ok X G (c.fact 71 (f := .glo "InvalidHold") rfl), He.glo_ok X G (c.fact 74 (f := .glo "InvalidLimb") rfl), He.glo_ok X G (c.fact 73 (f := .glo "InvalidNumber") rfl), He.glo_ok X G (c.fact 72 (f := .glo "InvalidStance") rfl), He.glo_ok X G (c.fact 75 (f := .glo "InvalidText") rfl), He.glo_ok X G (c.fact 76 (f := .glo "NoMove") rfl), He.glo_ok X G (c.fact 77 (f := .glo "NothingToUndo") rfl), He.free_ok X G (c.fact 67 (f := .free "ValueError") rfl)⟩
  have hex := cX.more
  unfold exL at hex
  have EC := errB_ok (K := K) hex
  refine ⟨fd_law, fun s v => b s [v] rfl, fun base _ _ TBs => ?_⟩
  have L_law := lamT_of (p := ("law", none)) (T := [((He.cT K ("law", none)).2, "law" ++ ".<locals>." ++ "<lambda>")]) (q := "law" ++ ".<locals>." ++ "<lambda>") F_law (TBs _ (List.mem_map.mpr ⟨("law", none), by unfold tfL; simp, rfl⟩)) (by simp) (by intro p hp _; simp only [List.mem_singleton] at hp; rw [hp])
  have g__law_draw := fv__law_draw (P := P) (w := w) (base := base) F__law_draw m__law_draw B
  have g__law_body := fv__law_body (P := P) (w := w) (base := base) F__law_body m__law_body B g__law_draw
  have g__law_rock := fv__law_rock (P := P) (w := w) (base := base) F__law_rock m__law_rock B g__law_draw
  have g__law_kept := fv__law_kept (P := P) (w := w) (base := base) F__law_kept m__law_kept B
  have g__law_all := fv__law_all (P := P) (w := w) (base := base) F__law_all m__law_all B g__law_kept
  have g__law_near := fv__law_near (P := P) (w := w) (base := base) F__law_near m__law_near B
  have g__law_levels := fv__law_levels (P := P) (w := w) (base := base) F__law_levels m__law_levels B g__law_near
  have g_is_between := fv_is_between (P := P) (w := w) (base := base) F_is_between m_is_between B
  have g_are_between := fv_are_between (P := P) (w := w) (base := base) F_are_between m_are_between B g_is_between
  have g_is_hold := fv_is_hold (P := P) (w := w) (base := base) F_is_hold m_is_hold B g_are_between
  have g_is_rock := fv_is_rock (P := P) (w := w) (base := base) F_is_rock m_is_rock B g_is_hold
  have g_check_rock := fv_check_rock (P := P) (w := w) (base := base) (ec := He.ga K) F_check_rock m_check_rock B g_is_rock x_InvalidRock
  have g_is_body := fv_is_body (P := P) (w := w) (base := base) F_is_body m_is_body B g_are_between
  have g_check_body := fv_check_body (P := P) (w := w) (base := base) (ec := He.ga K) F_check_body m_check_body B g_is_body x_InvalidBody
  have g_check_both := fv_check_both (P := P) (w := w) (base := base) (ec := He.ga K) F_check_both m_check_both B g_check_rock g_check_body
  have g_apart_by := fv_apart_by (P := P) (w := w) (base := base) F_apart_by m_apart_by B
  have g_have_room := fv_have_room (P := P) (w := w) (base := base) F_have_room m_have_room B
  have g_are_sorted := fv_are_sorted (P := P) (w := w) (base := base) F_are_sorted m_are_sorted B
  have g_is_kept := fv_is_kept (P := P) (w := w) (base := base) F_is_kept m_is_kept B g_apart_by g_have_room g_are_sorted
  have g_is_good_one := fv_is_good_one (P := P) (w := w) (base := base) F_is_good_one m_is_good_one B g_is_kept g_are_between
  have g_check_stance := fv_check_stance (P := P) (w := w) (base := base) (ec := He.ga K) F_check_stance m_check_stance B g_is_good_one x_InvalidStance
  have g_check_all := fv_check_all (P := P) (w := w) (base := base) (ec := He.ga K) F_check_all m_check_all B g_check_both g_check_stance
  have g_check_hold := fv_check_hold (P := P) (w := w) (base := base) (ec := He.ga K) F_check_hold m_check_hold B g_is_between x_InvalidHold
  have g_check_top := fv_check_top (P := P) (w := w) (base := base) (ec := He.ga K) F_check_top m_check_top B g_check_all g_check_hold
  have g_changed := fv_changed (P := P) (w := w) (base := base) F_changed m_changed B
  have g_next_stances := fv_next_stances (P := P) (w := w) (base := base) F_next_stances m_next_stances B g_changed g_is_kept
  have g_ways_from := fv_ways_from (P := P) (w := w) (base := base) F_ways_from m_ways_from B g_next_stances
  have g_does_top := fv_does_top (P := P) (w := w) (base := base) F_does_top m_does_top B
  have g_led_back := fv_led_back (P := P) (w := w) (base := base) F_led_back m_led_back B
  have g_found_climb := fv_found_climb (P := P) (w := w) (base := base) F_found_climb m_found_climb B g_ways_from g_does_top g_led_back
  have g_fewest_moves := fv_fewest_moves (P := P) (w := w) (base := base) (ec := He.ga K) F_fewest_moves m_fewest_moves B g_check_top g_found_climb
  have g_climb := fv_climb (P := P) (w := w) (base := base) (ec := He.ga K) F_climb m_climb B g_check_top g_found_climb
  have g__law_climb := fv__law_climb (P := P) (w := w) (base := base) F__law_climb m__law_climb B g__law_near
  have g__law_is := fv__law_is (P := P) (w := w) (base := base) F__law_is m__law_is B
  have g_differ_in_one := fv_differ_in_one (P := P) (w := w) (base := base) F_differ_in_one m_differ_in_one B
  have g_is_any_way := fv_is_any_way (P := P) (w := w) (base := base) F_is_any_way m_is_any_way B g_is_good_one g_differ_in_one
  have g_is_climb := fv_is_climb (P := P) (w := w) (base := base) (ec := He.ga K) F_is_climb m_is_climb B g_check_top g_does_top g_is_any_way
  have g__law_top := fv__law_top (P := P) (w := w) (base := base) (ec := He.ga K) F__law_top m__law_top B g__law_levels g_fewest_moves g_climb g__law_climb g__law_is g_is_climb
  exact ok_law (P := P) (w := w) (base := base) (ec := He.ga K) F_law B F__law_begun m__law_begun F__law_result m__law_result RC EC L_law g__law_body g__law_rock g__law_all g__law_draw g__law_top g_climb g_fewest_moves g_is_climb
end WL
theorem PySem.Challenge.cw_wallholds_k09_tops_holds : PySem.Challenge.rw_wallholds_k09_tops.Holds :=
  WL.holds_of fun X G hfa c => WL.factsL X G hfa c
