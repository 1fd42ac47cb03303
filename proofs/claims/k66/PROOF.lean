import PyProof.Rows.All
import Wide.All
import OpenK.AllK
import Wide.FinOn
import HandS.ForMost
import HandS.AnyAll
import HandS.Wide
import HandS.Conv
import KE.KDictKeyed
import KE.SortData
import HandS.TupAny
import HandS.TupMul
import KE.GoesEnum
import PyProof.CodeObjX
import HandS.GenOver
import HandS.Style
import HandS.Deep
import HandS.WideMore
import HandS.ReCall
import PyProof.FactsAll.list_0
import PyProof.FactsAll.dict_0
import PyProof.FactsAll.str_0
import KE.KDictOf
import KE.KDictZip
import KE.KDictSum
import KE.KDictCopyH
import KE.DataMinMax
import HandS.SortKw
import PyProof.SumAny
import HandS.Head0
import HandS.Head1
import HandS.Head2
import HandS.HeadEnd
import HandS.HeadHook1
import HandS.HeadHook2
import HandS.HeadHook3
import HandS.HeadHook4
import HandS.HeadWalk
import HandS.WordsExc
import KE.KStateDown
import KE.KEqDict
import KE.KDictItemsList
import HandS.DictTup
import HandS.ListItems
import HandS.Text
import HandS.StrMore
import HandS.MapSum
import HandS.IsInst
import HandS.Exc
import KE.KAssignIn
import PyProof.Rows.StrJoinMade
import PySem.Challenge.RW_lessonwright_k66_trees_said_to_a_desk
set_option Elab.async false
set_option linter.all false
set_option maxRecDepth 100000
set_option maxHeartbeats 2000000
/-! LA: data, the relation of values to data, the state, the judgement. -/
namespace LW
open PySem PySem.Spec PyProof.Rows L2

inductive D where
  | non | bl (b : Bool) | int (i : Int) | str (x : Str)
  | tup (ds : List D) | lst (ds : List D) | dic (kvs : List (D × D))
  | obj (C : Addr) (fs : List (Str × D)) | ref (a : Addr)

mutual
def D.nk : D → Option NestedKey
  | .non => some .none
  | .bl b => some (.num (if b = true then 1 else 0))
  | .int i => some (.num i)
  | .str x => some (.text x)
  | .tup ds => (D.nks ds).map .tup
  | .lst _ => none
  | .dic _ => none
  | .obj _ _ => none
  | .ref _ => none
def D.nks : List D → Option (List NestedKey)
  | [] => some []
  | d :: ds => match D.nk d, D.nks ds with
    | some k, some ks => some (k :: ks)
    | _, _ => none
end

/-- a dict object by its entries: hash, key, value -/
def dicO (a : Addr) (L : List (Int × V × V)) : HO := .ext fun h => ∃ (es : Array DictEntry) (ep : Nat),
  h.get? a = some { cls := .type "dict", dict := none, data := .dict es ep, slots := #[] } ∧ Paired (fun (x : Int × V × V) (e : DictEntry) => e.hash = x.1 ∧ RelV x.2.1 e.key ∧ RelV x.2.2 e.val) L es.toList

/-- the key's kind: all ints, all texts, all bools, all tuples -/
inductive KT where
  | i | s | b | t
def KT.of : KT → D → Bool
  | .i, .int _ => true
  | .s, .str _ => true
  | .b, .bl _ => true
  | .t, .tup _ => true
  | _, _ => false

structure DicOk (a : Addr) (kvs : List (D × D)) : Prop where
  sys : (a == sysModules) = false
  len : kvs.length ≤ sizeLine
  nd : (kvs.map fun p => p.1.nk).Nodup
  kind : ∃ t : KT, ∀ p ∈ kvs, t.of p.1 = true
  dep : ∀ p ∈ kvs, ∀ k, p.1.nk = some k → k.depth ≤ 8

mutual
inductive Dt (w : World) (G : Hp) : V → D → Prop
  | non : Dt w G .non .non
  | bl (b : Bool) : Dt w G (.bl b) (.bl b)
  | int (i : Int) : Dt w G (.int i) (.int i)
  | str (x : Str) : Dt w G (.str x) (.str x)
  | ref (a : Addr) : Dt w G (.ref a) (.ref a)
  | tup {a : Addr} {xs : List V} {ds : List D} : G a = some (.tup xs) → DtL w G xs ds → Dt w G (.ref a) (.tup ds)
  | lst {a : Addr} {xs : List V} {ds : List D} : G a = some (.lst xs) → DtL w G xs ds → Dt w G (.ref a) (.lst ds)
  | dic {a : Addr} {ob : Obj} {L : List (Int × V × V)} {kvs : List (D × D)} : G a = some (.frz ob (dicO a L)) → DtE w G L kvs → DicOk a kvs → Dt w G (.ref a) (.dic kvs)
  | obj {a C dx : Addr} {fs : List (Str × V)} {ds : List (Str × D)} : G a = some (.ins C dx fs) → DtF w G fs ds → Dt w G (.ref a) (.obj C ds)
inductive DtL (w : World) (G : Hp) : List V → List D → Prop
  | nil : DtL w G [] []
  | cons {v : V} {vs : List V} {d : D} {ds : List D} : Dt w G v d → DtL w G vs ds → DtL w G (v :: vs) (d :: ds)
inductive DtE (w : World) (G : Hp) : List (Int × V × V) → List (D × D) → Prop
  | nil : DtE w G [] []
  | cons {k v : V} {L : List (Int × V × V)} {dk dv : D} {nk : NestedKey} {kvs : List (D × D)} : dk.nk = some nk → Dt w G k dk → Dt w G v dv → DtE w G L kvs → DtE w G ((nk.hash w, k, v) :: L) ((dk, dv) :: kvs)
inductive DtF (w : World) (G : Hp) : List (Str × V) → List (Str × D) → Prop
  | nil : DtF w G [] []
  | cons {f : Str} {v : V} {fs : List (Str × V)} {d : D} {ds : List (Str × D)} : Dt w G v d → DtF w G fs ds → DtF w G ((f, v) :: fs) ((f, d) :: ds)
end

theorem Rd.up {G G' : Hp} (h : ∀ a o, G a = some o → G' a = some o) {a : Addr} {u : HO} : Rd G a u → Rd G' a u
  | .inl e => .inl (h _ _ e)
  | .inr ⟨o, e⟩ => .inr ⟨o, h _ _ e⟩
section
variable {w : World} {G G' : Hp}
mutual
theorem Dt.up (h : ∀ a o, G a = some o → G' a = some o) : ∀ {v : V} {d : D}, Dt w G v d → Dt w G' v d
  | _, _, .non => .non
  | _, _, .bl b => .bl b
  | _, _, .int i => .int i
  | _, _, .str x => .str x
  | _, _, .ref a => .ref a
  | _, _, .tup e r => .tup (h _ _ e) (DtL.up h r)
  | _, _, .lst e r => .lst (h _ _ e) (DtL.up h r)
  | _, _, .dic e r k => .dic (h _ _ e) (DtE.up h r) k
  | _, _, .obj e r => .obj (h _ _ e) (DtF.up h r)
theorem DtL.up (h : ∀ a o, G a = some o → G' a = some o) : ∀ {v : List V} {d : List D}, DtL w G v d → DtL w G' v d
  | _, _, .nil => .nil
  | _, _, .cons e r => .cons (Dt.up h e) (DtL.up h r)
theorem DtE.up (h : ∀ a o, G a = some o → G' a = some o) : ∀ {v : List (Int × V × V)} {d : List (D × D)}, DtE w G v d → DtE w G' v d
  | _, _, .nil => .nil
  | _, _, .cons q e1 e2 r => .cons q (Dt.up h e1) (Dt.up h e2) (DtE.up h r)
theorem DtF.up (h : ∀ a o, G a = some o → G' a = some o) : ∀ {v : List (Str × V)} {d : List (Str × D)}, DtF w G v d → DtF w G' v d
  | _, _, .nil => .nil
  | _, _, .cons e r => .cons (Dt.up h e) (DtF.up h r)
end
theorem DtL.length : ∀ {vs : List V} {ds : List D}, DtL w G vs ds → vs.length = ds.length
  | _, _, .nil => rfl
  | _, _, .cons _ r => congrArg (· + 1) (DtL.length r)
theorem DtL.get : ∀ {vs : List V} {ds : List D}, DtL w G vs ds → ∀ {i : Nat} {d : D}, ds[i]? = some d → ∃ v, vs[i]? = some v ∧ Dt w G v d
  | _, _, .nil, _, _, e => by simp at e
  | _, _, .cons h _, 0, _, e => by simp at e; subst e; exact ⟨_, rfl, h⟩
  | _, _, .cons _ r, i + 1, _, e => by
    obtain ⟨v, h1, h2⟩ := DtL.get r (i := i) (by simpa using e)
    exact ⟨v, by simpa using h1, h2⟩
theorem DtL.getV : ∀ {vs : List V} {ds : List D}, DtL w G vs ds → ∀ {i : Nat} {v : V}, vs[i]? = some v → ∃ d, ds[i]? = some d ∧ Dt w G v d
  | _, _, .nil, _, _, e => by simp at e
  | _, _, .cons h _, 0, _, e => by simp at e; subst e; exact ⟨_, rfl, h⟩
  | _, _, .cons _ r, i + 1, _, e => by
    obtain ⟨v, h1, h2⟩ := DtL.getV r (i := i) (by simpa using e)
    exact ⟨v, by simpa using h1, h2⟩
theorem DtL.app : ∀ {vs us : List V} {ds es : List D}, DtL w G vs ds → DtL w G us es → DtL w G (vs ++ us) (ds ++ es)
  | _, _, _, _, .nil, h => h
  | _, _, _, _, .cons e r, h => .cons e (DtL.app r h)
theorem DtL.drop : ∀ {vs : List V} {ds : List D} (n : Nat), DtL w G vs ds → DtL w G (vs.drop n) (ds.drop n)
  | _, _, 0, h => h
  | _, _, _ + 1, .nil => .nil
  | _, _, n + 1, .cons _ r => DtL.drop n r
theorem DtL.take : ∀ {vs : List V} {ds : List D} (n : Nat), DtL w G vs ds → DtL w G (vs.take n) (ds.take n)
  | _, _, 0, _ => .nil
  | _, _, _ + 1, .nil => .nil
  | _, _, n + 1, .cons e r => .cons e (DtL.take n r)
theorem DtL.set {v : V} {d : D} (q : Dt w G v d) : ∀ {vs : List V} {ds : List D} (i : Nat), DtL w G vs ds → DtL w G (vs.set i v) (ds.set i d)
  | _, _, _, .nil => .nil
  | _, _, 0, .cons _ r => .cons q r
  | _, _, i + 1, .cons e r => .cons e (DtL.set q i r)
theorem DtL.ints : ∀ {vs : List V} {ns : List Int}, DtL w G vs (ns.map D.int) → vs = ns.map V.int
  | _, [], h => by cases h; rfl
  | _, n :: ns, h => by
    cases h with
    | cons e r =>
      cases e
      rw [DtL.ints r]
      rfl
theorem DtL.ofInts : ∀ (ns : List Int), DtL w G (ns.map V.int) (ns.map D.int)
  | [] => .nil
  | n :: ns => .cons (.int n) (DtL.ofInts ns)
theorem DtL.bls : ∀ {vs : List V} {ns : List Bool}, DtL w G vs (ns.map D.bl) → vs = ns.map V.bl
  | _, [], h => by cases h; rfl
  | _, n :: ns, h => by
    cases h with
    | cons e r =>
      cases e
      rw [DtL.bls r]
      rfl
theorem DtL.strs : ∀ {vs : List V} {ns : List Str}, DtL w G vs (ns.map D.str) → vs = ns.map V.str
  | _, [], h => by cases h; rfl
  | _, n :: ns, h => by
    cases h with
    | cons e r =>
      cases e
      rw [DtL.strs r]
      rfl
theorem DtL.ofStrs : ∀ (ns : List Str), DtL w G (ns.map V.str) (ns.map D.str)
  | [] => .nil
  | n :: ns => .cons (.str n) (DtL.ofStrs ns)
theorem DtF.get : ∀ {fs : List (Str × V)} {ds : List (Str × D)}, DtF w G fs ds → ∀ {f : Str} {d : D}, ds.lookup f = some d → ∃ v, fs.lookup f = some v ∧ Dt w G v d
  | _, _, .nil, f, d, e => by cases e
  | _, _, .cons (f := g) h r, f, d, e => by
    rw [List.lookup_cons] at e ⊢
    cases hb : f == g with
    | true =>
      rw [hb] at e
      cases e
      exact ⟨_, rfl, h⟩
    | false =>
      rw [hb] at e
      exact DtF.get r e
theorem DtF.none : ∀ {fs : List (Str × V)} {ds : List (Str × D)}, DtF w G fs ds → ∀ {f : Str}, ds.lookup f = Option.none → fs.lookup f = Option.none
  | _, _, .nil, f, e => rfl
  | _, _, .cons (f := g) h r, f, e => by
    rw [List.lookup_cons] at e ⊢
    cases hb : f == g with
    | true =>
      rw [hb] at e
      cases e
    | false =>
      rw [hb] at e
      exact DtF.none r e
theorem DtF.length : ∀ {fs : List (Str × V)} {ds : List (Str × D)}, DtF w G fs ds → fs.length = ds.length
  | _, _, .nil => rfl
  | _, _, .cons _ r => congrArg (· + 1) (DtF.length r)
/-- the fields' data behind a store -/
def putD (f : Str) (d : D) : List (Str × D) → List (Str × D)
  | [] => [(f, d)]
  | (g, x) :: r => if g = f then (g, d) :: r else (g, x) :: putD f d r
theorem DtF.put {f : Str} {v : V} {d : D} (q : Dt w G v d) : ∀ {fs : List (Str × V)} {ds : List (Str × D)}, DtF w G fs ds → DtF w G (putF f v fs) (putD f d ds)
  | _, _, .nil => .cons q .nil
  | _, _, .cons (f := g) e r => by
    unfold putF putD
    by_cases h : g = f
    · rw [if_pos h, if_pos h]
      exact .cons q r
    · rw [if_neg h, if_neg h]
      exact .cons e (DtF.put q r)
end

/-! ### owned objects -/
inductive Ob where
  | lst (ds : List D) | dic (kvs : List (D × D)) | obj (C : Addr) (fs : List (Str × D))
abbrev Mem := List (Option (Addr × Ob))
def adr (M : Mem) : List Addr := M.filterMap fun x => x.map (·.1)
def ObOk (w : World) (G H : Hp) (p : Addr) : Ob → Prop
  | .lst ds => ∃ xs, H p = some (.lst xs) ∧ DtL w G xs ds
  | .dic kvs => ∃ L, H p = some (dicO p L) ∧ DtE w G L kvs ∧ DicOk p kvs
  | .obj C fs => ∃ dx ws, H p = some (.ins C dx ws) ∧ DtF w G ws fs
/-- the heap's part of a state -/
structure HS (w : World) (T : List Addr) (G H : Hp) (M : Mem) : Prop where
  sub : ∀ a o, G a = some o → H a = some o
  pur : ∀ a ps, G a ≠ some (.tbl ps)
  nd : (adr M).Nodup
  mem : ∀ p ob, some (p, ob) ∈ M → G p = none ∧ ObOk w G H p ob
  tab : ∀ P ∈ T, GxR.TabG H P
/-- the slots -/
structure SL (w : World) (G : Hp) (σ : L2.St) (ρ : List (Option D)) : Prop where
  len : σ.length = ρ.length
  at_ : ∀ (i : Nat) (d : D), ρ[i]? = some (some d) → ∃ v, σ[i]? = some (some v) ∧ Dt w G v d
def Kept (o : HO) (x : Option HO) : Prop := x = some o ∨ ∃ ps more, o = .tbl ps ∧ x = some (.tbl (ps ++ more))
structure Step (G H : Hp) (M : Mem) (G' H' : Hp) (M' : Mem) : Prop where
  up : ∀ a o, G a = some o → G' a = some o
  new : ∀ a o, G' a = some o → G a = some o ∨ H a = none ∨ a ∈ adr M
  keep : ∀ a o, H a = some o → a ∉ adr M → Kept o (H' a)
  adr_ : ∀ a ∈ adr M', a ∈ adr M ∨ H a = none

theorem Kept.refl (o : HO) : Kept o (some o) := .inl rfl
theorem Kept.some_of {o : HO} {x : Option HO} (h : Kept o x) : x ≠ none := by
  rcases h with e | ⟨_, _, _, e⟩ <;> rw [e] <;> exact fun q => by cases q
theorem Kept.trans {o : HO} {x y : Option HO} (h : Kept o x) (k : ∀ u, x = some u → Kept u y) : Kept o y := by
  rcases h with e | ⟨ps, more, e1, e2⟩
  · exact k _ e
  · rcases k _ e2 with e | ⟨ps', more', e3, e4⟩
    · exact .inr ⟨ps, more, e1, e⟩
    · cases e3
      exact .inr ⟨ps, more ++ more', e1, by rw [e4, Array.append_assoc]⟩
theorem Step.refl (G H : Hp) (M : Mem) : Step G H M G H M := ⟨fun _ _ e => e, fun _ _ e => .inl e, fun _ o e _ => .inl e, fun _ h => .inl h⟩
theorem Step.gone {G H : Hp} {M : Mem} {G' H' : Hp} {M' : Mem} (s : Step G H M G' H' M') {a : Addr} (e : H' a = Option.none) : H a = Option.none ∨ a ∈ adr M := by
  by_cases h : a ∈ adr M
  · exact .inr h
  · refine .inl ?_
    cases q : H a with
    | none => rfl
    | some o => exact absurd e (s.keep a o q h).some_of
theorem Step.trans {G H : Hp} {M : Mem} {G1 H1 : Hp} {M1 : Mem} {G2 H2 : Hp} {M2 : Mem} (s : Step G H M G1 H1 M1) (t : Step G1 H1 M1 G2 H2 M2) : Step G H M G2 H2 M2 where
  up := fun a o e => t.up a o (s.up a o e)
  new := fun a o e => by
    rcases t.new a o e with e | e | e
    · exact s.new a o e
    · rcases s.gone e with e | e
      · exact .inr (.inl e)
      · exact .inr (.inr e)
    · rcases s.adr_ a e with e | e
      · exact .inr (.inr e)
      · exact .inr (.inl e)
  keep := fun a o e n => by
    refine (s.keep a o e n).trans fun u q => t.keep a u q fun h => ?_
    rcases s.adr_ a h with h | h
    · exact n h
    · rw [e] at h
      cases h
  adr_ := fun a h => by
    rcases t.adr_ a h with h | h
    · exact s.adr_ a h
    · rcases s.gone h with h | h
      · exact .inr h
      · exact .inl h
section
variable {w : World} {T : List Addr} {G G' H H' : Hp} {M M' : Mem} {σ : L2.St} {ρ : List (Option D)} {v : V} {d : D}
theorem SL.up (h : ∀ a o, G a = some o → G' a = some o) (s : SL w G σ ρ) : SL w G' σ ρ :=
  ⟨s.len, fun i d e => let ⟨v, h1, h2⟩ := s.at_ i d e; ⟨v, h1, h2.up h⟩⟩
theorem SL.set (s : SL w G σ ρ) (i : Nat) (q : Dt w G v d) : SL w G (σ.set i (some v)) (ρ.set i (some d)) := by
  refine ⟨by rw [List.length_set, List.length_set]; exact s.len, fun j e hj => ?_⟩
  by_cases h : i = j
  · subst h
    by_cases hl : i < ρ.length
    · rw [List.getElem?_set_self hl] at hj
      cases hj
      exact ⟨v, List.getElem?_set_self (by rw [s.len]; exact hl), q⟩
    · rw [List.getElem?_eq_none (by rw [List.length_set]; omega)] at hj
      cases hj
  · rw [List.getElem?_set_ne h] at hj ⊢
    exact s.at_ j e hj
theorem adr_mem {p : Addr} {ob : Ob} (h : some (p, ob) ∈ M) : p ∈ adr M := List.mem_filterMap.mpr ⟨_, h, rfl⟩
theorem mem_adr {p : Addr} (h : p ∈ adr M) : ∃ ob, some (p, ob) ∈ M := by
  obtain ⟨x, h1, h2⟩ := List.mem_filterMap.mp h
  cases x with
  | none => cases h2
  | some q =>
    cases h2
    exact ⟨q.2, h1⟩
theorem ObOk.there {p : Addr} {ob : Ob} (h : ObOk w G H p ob) : ∃ o, H p = some o ∧ Mut (some o) ∧ (∀ ps, o ≠ .tbl ps) ∧ ∀ xs, o ≠ .tup xs := by
  cases ob with
  | lst ds => obtain ⟨xs, e, _⟩ := h; exact ⟨_, e, trivial, (fun _ q => by cases q), (fun _ q => by cases q)⟩
  | dic kvs => obtain ⟨L, e, _⟩ := h; exact ⟨_, e, trivial, (fun _ q => by cases q), (fun _ q => by cases q)⟩
  | obj C fs => obtain ⟨dx, ws, e, _⟩ := h; exact ⟨_, e, trivial, (fun _ q => by cases q), (fun _ q => by cases q)⟩
theorem HS.adr_some (s : HS w T G H M) {p : Addr} (h : p ∈ adr M) : ∃ o, H p = some o := by
  obtain ⟨ob, q⟩ := mem_adr h
  obtain ⟨o, e, _⟩ := (s.mem p ob q).2.there
  exact ⟨o, e⟩
theorem HS.fresh (s : HS w T G H M) {p : Addr} (h : H p = none) : p ∉ adr M := fun q => by
  obtain ⟨o, e⟩ := s.adr_some q
  rw [h] at e
  cases e
theorem HS.freshG (s : HS w T G H M) {p : Addr} (h : H p = none) : G p = none := by
  cases e : G p with
  | none => rfl
  | some o =>
    rw [s.sub p o e] at h
    cases h
theorem ObOk.mono {p : Addr} {ob : Ob} (hG : ∀ a o, G a = some o → G' a = some o) (hH : H' p = H p) (h : ObOk w G H p ob) : ObOk w G' H' p ob := by
  cases ob with
  | lst ds => obtain ⟨xs, e, r⟩ := h; exact ⟨xs, by rw [hH]; exact e, r.up hG⟩
  | dic kvs => obtain ⟨L, e, r, k⟩ := h; exact ⟨L, by rw [hH]; exact e, r.up hG, k⟩
  | obj C fs => obtain ⟨dx, ws, e, r⟩ := h; exact ⟨dx, ws, by rw [hH]; exact e, r.up hG⟩
theorem up_upd {G : Hp} {p : Addr} {o : HO} (h : G p = none) : ∀ a u, G a = some u → upd G p o a = some u := fun a u e => by
  rw [upd_ne (ne_of_none e h)]
  exact e
theorem TabG.upd {H : Hp} {P p : Addr} {o : HO} (t : GxR.TabG H P) (h : ∀ ps, H p ≠ some (.tbl ps)) : GxR.TabG (upd H p o) P := by
  obtain ⟨ps, e, k⟩ := t
  refine ⟨ps, ?_, k⟩
  rw [upd_ne fun q => h ps (by rw [← q]; exact e)]
  exact e
/-- a new immutable object -/
theorem HS.new (s : HS w T G H M) {p : Addr} {o : HO} (hp : H p = none) (ho : ∀ ps, o ≠ .tbl ps) : HS w T (upd G p o) (upd H p o) M := by
  have gp := s.freshG hp
  refine ⟨fun a u e => ?_, fun a ps e => ?_, s.nd, fun q ob h => ?_, fun P hP => TabG.upd (s.tab P hP) fun ps q => by rw [hp] at q; cases q⟩
  · by_cases h : a = p
    · subst h
      rw [upd_same] at e ⊢
      exact e
    · rw [upd_ne h] at e ⊢
      exact s.sub a u e
  · by_cases h : a = p
    · subst h
      rw [upd_same] at e
      exact ho ps (Option.some.inj e)
    · rw [upd_ne h] at e
      exact s.pur a ps e
  · have nq : q ≠ p := fun z => s.fresh hp (z ▸ adr_mem h)
    obtain ⟨h1, h2⟩ := s.mem q ob h
    exact ⟨by rw [upd_ne nq]; exact h1, h2.mono (up_upd gp) (upd_ne nq)⟩
theorem Step.newI (s : HS w T G H M) {p : Addr} {o : HO} (hp : H p = none) : Step G H M (upd G p o) (upd H p o) M := by
  have gp := s.freshG hp
  refine ⟨up_upd gp, fun a u e => ?_, fun a u e n => ?_, fun a h => .inl h⟩
  · by_cases h : a = p
    · subst h
      exact .inr (.inl hp)
    · rw [upd_ne h] at e
      exact .inl e
  · rw [upd_ne (ne_of_none e hp)]
    exact .inl e
end

/-! ### the judgement for expressions -/
def tE (w : World) (T : List Addr) (ρ : List (Option D)) (M : Mem) (d : D) (M' : Mem) : TE := fun σ H Q => ∃ G, HS w T G H M ∧ SL w G σ ρ ∧
  ∀ v G' H', Step G H M G' H' M' → HS w T G' H' M' → Dt w G' v d → Q v H'
def tEL (w : World) (T : List Addr) (ρ : List (Option D)) (M : Mem) (ds : List D) (M' : Mem) : TA := fun σ H Q => ∃ G, HS w T G H M ∧ SL w G σ ρ ∧
  ∀ vs G' H', Step G H M G' H' M' → HS w T G' H' M' → DtL w G' vs ds → Q vs H'
def tET (w : World) (T : List Addr) (ρ : List (Option D)) (M : Mem) (b : Bool) (M' : Mem) : TT := fun σ H Q => ∃ G, HS w T G H M ∧ SL w G σ ρ ∧
  ∀ G' H', Step G H M G' H' M' → HS w T G' H' M' → Q b H'
/-- e gives d -/
abbrev PD (X : Cx) (T : List Addr) (ρ : List (Option D)) (M : Mem) (e : Expr) (d : D) (M' : Mem) : Prop := PE X e (tE X.w T ρ M d M')
abbrev PDL (X : Cx) (T : List Addr) (ρ : List (Option D)) (M : Mem) (es : List Expr) (ds : List D) (M' : Mem) : Prop := PA X es (tEL X.w T ρ M ds M')
abbrev PDT (X : Cx) (T : List Addr) (ρ : List (Option D)) (M : Mem) (e : Expr) (b : Bool) (M' : Mem) : Prop := PT X e (tET X.w T ρ M b M')

theorem _root_.L2.PE.imp {X : Cx} {e : Expr} {t t' : TE} (h : PE X e t) (k : ∀ σ H Q, t' σ H Q → t σ H Q) : PE X e t' :=
  ⟨fun pins s σ H Q I q => h.run pins s σ H Q I (k _ _ _ q)⟩
theorem _root_.L2.PT.imp {X : Cx} {e : Expr} {t t' : TT} (h : PT X e t) (k : ∀ σ H Q, t' σ H Q → t σ H Q) : PT X e t' :=
  ⟨fun pins s σ H Q I q => h.run pins s σ H Q I (k _ _ _ q)⟩
theorem _root_.L2.PA.imp {X : Cx} {e : List Expr} {t t' : TA} (h : PA X e t) (k : ∀ σ H Q, t' σ H Q → t σ H Q) : PA X e t' :=
  ⟨fun pos pins s σ H Q I q => h.run pos pins s σ H Q I (k _ _ _ q)⟩
theorem _root_.L2.PS.imp {X : Cx} {e : Stmt} {t t' : TS} (h : PS X e t) (k : ∀ D σ H, t' D σ H → t D σ H) : PS X e t' :=
  ⟨fun pins s σ H D I q => h.run pins s σ H D I (k _ _ _ q)⟩
theorem _root_.L2.PSs.imp {X : Cx} {e : List Stmt} {t t' : TS} (h : PSs X e t) (k : ∀ D σ H, t' D σ H → t D σ H) : PSs X e t' :=
  ⟨fun pins s σ H D I q => h.run pins s σ H D I (k _ _ _ q)⟩
theorem _root_.L2.PE.ex {X : Cx} {e : Expr} {α : Type} {t : α → TE} (h : ∀ x, PE X e (t x)) : PE X e (fun σ H Q => ∃ x, t x σ H Q) :=
  ⟨fun pins s σ H Q I ⟨x, q⟩ => (h x).run pins s σ H Q I q⟩
theorem _root_.L2.PSs.ex {X : Cx} {e : List Stmt} {α : Type} {t : α → TS} (h : ∀ x, PSs X e (t x)) : PSs X e (fun D σ H => ∃ x, t x D σ H) :=
  ⟨fun pins s σ H D I ⟨x, q⟩ => (h x).run pins s σ H D I q⟩
end LW

set_option Elab.async false
set_option linter.all false
set_option maxRecDepth 100000
set_option maxHeartbeats 2000000
/-! LB: rules of expressions. -/
namespace LW
open PySem PySem.Spec PyProof.Rows L2
section
variable {X : Cx} {T : List Addr} {ρ : List (Option D)} {M M1 M2 M3 : Mem} {d da db dc : D} {a b c e : Expr} {es : List Expr} {pos : Pos}

def OkR2 (w : World) (T : List Addr) (M : Mem) (r : R2) (da db d : D) : Prop := ∀ (G H : Hp) (v u : V) (Q : VK), HS w T G H M → Dt w G v da → Dt w G u db →
  (∀ z G' H', Step G H M G' H' M → HS w T G' H' M → Dt w G' z d → Q z H') → r v u H Q
def OkC (w : World) (T : List Addr) (M : Mem) (r : List V → Hp → VK → Prop) (ds : List D) (d : D) : Prop := ∀ (G H : Hp) (vs : List V) (Q : VK), HS w T G H M → DtL w G vs ds →
  (∀ z G' H', Step G H M G' H' M → HS w T G' H' M → Dt w G' z d → Q z H') → r vs H Q

theorem pd_cast {d' : D} (h : PD X T ρ M e d M1) (q : d = d') : PD X T ρ M e d' M1 := q ▸ h
theorem pdt_cast {k k' : Bool} (h : PDT X T ρ M e k M1) (q : k = k') : PDT X T ρ M e k' M1 := q ▸ h

theorem pd_var (i : Nat) {x : Str} (hd : ρ[i]? = some (some d) := by rfl) (hN : X.N[i]? = some x := by rfl) (hv : Vis X.env.scope x := by first | exact Or.inl rfl | exact Or.inr (Or.inl rfl) | exact Or.inr (Or.inr rfl))
    (h1 : (x == ("__debug__" : Str)) = false := by decide) (h2 : (x == ("__classdict__" : Str)) = false := by decide) : PD X T ρ M (.Name x pos) d M :=
  (pv i hN hv h1 h2).imp fun σ H Q ⟨G, hs, sl, k⟩ => by
    obtain ⟨v, e, r⟩ := sl.at_ i d hd
    exact ⟨v, e, k v G H (Step.refl _ _ _) hs r⟩
theorem pd_int {i : Int} {j : Nat} : PD X T ρ M (.Constant (.int i) j pos) (.int i) M :=
  pe_int.imp fun σ H Q ⟨G, hs, sl, k⟩ => k _ G H (Step.refl _ _ _) hs (.int i)
theorem pd_bl {i : Bool} {j : Nat} : PD X T ρ M (.Constant (.bool i) j pos) (.bl i) M :=
  pe_bl.imp fun σ H Q ⟨G, hs, sl, k⟩ => k _ G H (Step.refl _ _ _) hs (.bl i)
theorem pd_non {j : Nat} : PD X T ρ M (.Constant .none j pos) .non M :=
  pe_non.imp fun σ H Q ⟨G, hs, sl, k⟩ => k _ G H (Step.refl _ _ _) hs .non
theorem pd_str {x : Str} {j : Nat} : PD X T ρ M (.Constant (.str x) j pos) (.str x) M :=
  pe_str.imp fun σ H Q ⟨G, hs, sl, k⟩ => k _ G H (Step.refl _ _ _) hs (.str x)
/-- a global value that is a reference (a class, a def), or a constant -/
theorem pd_globI {x : Str} {i : Int} {t : Tok} (hm : X.mg x = some (.int i t)) (hg : Gl X x := by rfl) (h1 : (x == ("__debug__" : Str)) = false := by decide) : PD X T ρ M (.Name x pos) (.int i) M :=
  (pe_glob (v := .int i) hg hm ⟨t, rfl⟩ h1).imp fun σ H Q ⟨G, hs, sl, k⟩ => k _ G H (Step.refl _ _ _) hs (.int i)
theorem pd_globS {x : Str} {i : Str} {t : Tok} (hm : X.mg x = some (.str i t)) (hg : Gl X x := by rfl) (h1 : (x == ("__debug__" : Str)) = false := by decide) : PD X T ρ M (.Name x pos) (.str i) M :=
  (pe_glob (v := .str i) hg hm ⟨t, rfl⟩ h1).imp fun σ H Q ⟨G, hs, sl, k⟩ => k _ G H (Step.refl _ _ _) hs (.str i)

/-- two in a row, then an operation by values -/
theorem two_in {ta tb : TE} {r : R2} (hr : OkR2 X.w T M2 r da db d) (σ : L2.St) (H : Hp) (Q : VK) (h : tE X.w T ρ M d M2 σ H Q) :
    tOp r (tE X.w T ρ M da M1) (tE X.w T ρ M1 db M2) σ H Q := by
  obtain ⟨G, hs, sl, k⟩ := h
  refine ⟨G, hs, sl, fun v G1 H1 st1 hs1 r1 => ⟨G1, hs1, sl.up st1.up, fun u G2 H2 st2 hs2 r2 => ?_⟩⟩
  exact hr G2 H2 v u Q hs2 (r1.up st2.up) r2 fun z G' H' st hs' rz => k z G' H' ((st1.trans st2).trans st) hs' rz
theorem pd_op {op : Operator} {r : R2} (ho : OpR X (binaryOp op) r) (hr : OkR2 X.w T M2 r da db d) (ha : PD X T ρ M a da M1) (hb : PD X T ρ M1 b db M2) : PD X T ρ M (.BinOp a op b pos) d M2 :=
  (pe_op ho ha hb).imp fun σ H Q h => two_in (ta := tE X.w T ρ M da M1) (tb := tE X.w T ρ M1 db M2) hr σ H Q h
theorem pd_cmp {op : CmpOp} {r : R2} (ho : OpR X (compareOp op) r) (hr : OkR2 X.w T M2 r da db d) (ha : PD X T ρ M a da M1) (hb : PD X T ρ M1 b db M2) (hm : behindInMarks op b = false := by first | exact nomark _ | rfl | with_unfolding_all rfl) : PD X T ρ M (.Compare a [op] [b] pos) d M2 :=
  (pe_cmpR ho ha hb hm).imp fun σ H Q h => two_in (ta := tE X.w T ρ M da M1) (tb := tE X.w T ρ M1 db M2) hr σ H Q h
theorem pdt_cmp {op : CmpOp} {r : R2} {k : Bool} (ho : OpR X (compareOp op) r) (hr : OkR2 X.w T M2 r da db (.bl k)) (ha : PD X T ρ M a da M1) (hb : PD X T ρ M1 b db M2) (hm : behindInMarks op b = false := by first | exact nomark _ | rfl | with_unfolding_all rfl) : PDT X T ρ M (.Compare a [op] [b] pos) k M2 :=
  (pt_cmpR ho ha hb hm).imp fun σ H Q h => by
    obtain ⟨G, hs, sl, q⟩ := h
    refine two_in (ta := tE X.w T ρ M da M1) (tb := tE X.w T ρ M1 db M2) hr σ H _ ⟨G, hs, sl, fun z G' H' st hs' rz => ?_⟩
    cases rz
    exact ⟨k, rfl, q G' H' st hs'⟩
/-- any expression that is a bool, as a test -/
theorem pdt_val {k : Bool} (h : PD X T ρ M e (.bl k) M1) (he : ∀ whole, isTrue e X.env whole = (do let v ← whole; standAt e.pos; holding [v] (truthy v)) := by intro _; rfl) : PDT X T ρ M e k M1 :=
  (pt_val h he).imp fun σ H Q ⟨G, hs, sl, q⟩ => ⟨G, hs, sl, fun v G' H' st hs' r => by cases r; exact ⟨k, rfl, q G' H' st hs'⟩⟩
theorem pdt_not {k : Bool} (h : PDT X T ρ M e k M1) : PDT X T ρ M (.UnaryOp .Not e pos) (!k) M1 :=
  (pt_not h).imp fun σ H Q ⟨G, hs, sl, q⟩ => ⟨G, hs, sl, fun G' H' st hs' => q G' H' st hs'⟩
theorem pd_not {k : Bool} (h : PD X T ρ M e (.bl k) M1) : PD X T ρ M (.UnaryOp .Not e pos) (.bl (!k)) M1 :=
  (pe_not h).imp fun σ H Q ⟨G, hs, sl, q⟩ => ⟨G, hs, sl, fun v G' H' st hs' r => by cases r; exact ⟨k, rfl, q _ G' H' st hs' (.bl _)⟩⟩
/-! and, or: nothing is changed by the parts -/
abbrev PDW (X : Cx) (T : List Addr) (ρ : List (Option D)) (M : Mem) (e : Expr) (k : Bool) (M' : Mem) : Prop := PW X e (tET X.w T ρ M k M')
theorem pdw_and1 {k : Bool} (h : PDT X T ρ M a k M1) : PDW X T ρ M (.BoolOp .And [a] pos) k M1 := pw_and1 h
theorem pdw_or1 {k : Bool} (h : PDT X T ρ M a k M1) : PDW X T ρ M (.BoolOp .Or [a] pos) k M1 := pw_or1 h
theorem _root_.L2.PW.imp {t t' : TT} (h : PW X e t) (k : ∀ σ H Q, t' σ H Q → t σ H Q) : PW X e t' :=
  ⟨fun whole pins s σ H Q I q => h.run whole pins s σ H Q I (k _ _ _ q)⟩
theorem _root_.L2.PW.exB {t : TT} {P : Prop} [Decidable P] (h : P → PW X e t) : PW X e (fun σ H Q => P ∧ t σ H Q) :=
  ⟨fun whole pins s σ H Q I q => (h q.1).run whole pins s σ H Q I q.2⟩
theorem _root_.L2.PE.exB {t : TE} {P : Prop} (h : P → PE X e t) : PE X e (fun σ H Q => P ∧ t σ H Q) :=
  ⟨fun pins s σ H Q I q => (h q.1).run pins s σ H Q I q.2⟩
theorem _root_.L2.PT.exB {t : TT} {P : Prop} (h : P → PT X e t) : PT X e (fun σ H Q => P ∧ t σ H Q) :=
  ⟨fun pins s σ H Q I q => (h q.1).run pins s σ H Q I q.2⟩
theorem _root_.L2.PSs.exB {sts : List Stmt} {t : TS} {P : Prop} (h : P → PSs X sts t) : PSs X sts (fun D σ H => P ∧ t D σ H) :=
  ⟨fun pins s σ H D I q => (h q.1).run pins s σ H D I q.2⟩
theorem pdw_and {k l : Bool} {rest : List Expr} (ha : PDT X T ρ M a k M1) (hb : k = true → PDW X T ρ M1 (.BoolOp .And (b :: rest) pos) l M1) : PDW X T ρ M (.BoolOp .And (a :: b :: rest) pos) (k && l) M1 :=
  (pw_and ha (PW.exB (P := k = true) hb)).imp fun σ H Q ⟨G, hs, sl, q⟩ => ⟨G, hs, sl, fun G1 H1 st hs1 => by
    cases k with
    | false => exact q G1 H1 st hs1
    | true => exact ⟨rfl, G1, hs1, sl.up st.up, fun G2 H2 st2 hs2 => q G2 H2 (st.trans st2) hs2⟩⟩
theorem pdw_or {k l : Bool} {rest : List Expr} (ha : PDT X T ρ M a k M1) (hb : k = false → PDW X T ρ M1 (.BoolOp .Or (b :: rest) pos) l M1) : PDW X T ρ M (.BoolOp .Or (a :: b :: rest) pos) (k || l) M1 :=
  (pw_or ha (PW.exB (P := k = false) hb)).imp fun σ H Q ⟨G, hs, sl, q⟩ => ⟨G, hs, sl, fun G1 H1 st hs1 => by
    cases k with
    | true => exact q G1 H1 st hs1
    | false => exact ⟨rfl, G1, hs1, sl.up st.up, fun G2 H2 st2 hs2 => q G2 H2 (st.trans st2) hs2⟩⟩
theorem pdt_and {k l : Bool} (ha : PDT X T ρ M a k M1) (hb : k = true → PDT X T ρ M1 b l M1) : PDT X T ρ M (.BoolOp .And [a, b] pos) (k && l) M1 := PW.pt (pdw_and ha fun q => pdw_and1 (hb q))
theorem pdt_or {k l : Bool} (ha : PDT X T ρ M a k M1) (hb : k = false → PDT X T ρ M1 b l M1) : PDT X T ρ M (.BoolOp .Or [a, b] pos) (k || l) M1 := PW.pt (pdw_or ha fun q => pdw_or1 (hb q))
theorem pd_one {op : BoolOp} (h : PD X T ρ M a d M1) : PD X T ρ M (.BoolOp op [a] pos) d M1 := pe_one h
theorem pd_and {k l : Bool} {rest : List Expr} (ha : PD X T ρ M a (.bl k) M1) (hb : k = true → PD X T ρ M1 (.BoolOp .And (b :: rest) pos) (.bl l) M1) : PD X T ρ M (.BoolOp .And (a :: b :: rest) pos) (.bl (k && l)) M1 :=
  (pe_and ha (PE.exB (P := k = true) hb)).imp fun σ H Q ⟨G, hs, sl, q⟩ => ⟨G, hs, sl, fun v G1 H1 st hs1 r => by
    cases r
    cases k with
    | false => exact ⟨_, rfl, q _ G1 H1 st hs1 (.bl _)⟩
    | true => exact ⟨_, rfl, rfl, G1, hs1, sl.up st.up, fun v2 G2 H2 st2 hs2 r2 => q v2 G2 H2 (st.trans st2) hs2 r2⟩⟩
theorem pd_or {k l : Bool} {rest : List Expr} (ha : PD X T ρ M a (.bl k) M1) (hb : k = false → PD X T ρ M1 (.BoolOp .Or (b :: rest) pos) (.bl l) M1) : PD X T ρ M (.BoolOp .Or (a :: b :: rest) pos) (.bl (k || l)) M1 :=
  (pe_or ha (PE.exB (P := k = false) hb)).imp fun σ H Q ⟨G, hs, sl, q⟩ => ⟨G, hs, sl, fun v G1 H1 st hs1 r => by
    cases r
    cases k with
    | true => exact ⟨_, rfl, q _ G1 H1 st hs1 (.bl _)⟩
    | false => exact ⟨_, rfl, rfl, G1, hs1, sl.up st.up, fun v2 G2 H2 st2 hs2 r2 => q v2 G2 H2 (st.trans st2) hs2 r2⟩⟩
theorem pd_and2 {k l : Bool} (ha : PD X T ρ M a (.bl k) M1) (hb : k = true → PD X T ρ M1 b (.bl l) M1) : PD X T ρ M (.BoolOp .And [a, b] pos) (.bl (k && l)) M1 := pd_and ha fun q => pd_one (hb q)
theorem pd_or2 {k l : Bool} (ha : PD X T ρ M a (.bl k) M1) (hb : k = false → PD X T ρ M1 b (.bl l) M1) : PD X T ρ M (.BoolOp .Or [a, b] pos) (.bl (k || l)) M1 := pd_or ha fun q => pd_one (hb q)
/-- a if c else b -/
theorem pd_if {k : Bool} {d1 d2 : D} (hc : PDT X T ρ M c k M1) (h1 : k = true → PD X T ρ M1 a d1 M2) (h2 : k = false → PD X T ρ M1 b d2 M2) : PD X T ρ M (.IfExp c a b pos) (if k = true then d1 else d2) M2 :=
  (pe_ifExp hc (PE.exB (P := k = true) h1) (PE.exB (P := k = false) h2)).imp fun σ H Q ⟨G, hs, sl, q⟩ => ⟨G, hs, sl, fun G1 H1 st hs1 => by
    cases k with
    | true => exact ⟨rfl, G1, hs1, sl.up st.up, fun v2 G2 H2 st2 hs2 r2 => q v2 G2 H2 (st.trans st2) hs2 r2⟩
    | false => exact ⟨rfl, G1, hs1, sl.up st.up, fun v2 G2 H2 st2 hs2 r2 => q v2 G2 H2 (st.trans st2) hs2 r2⟩⟩
theorem pd_ifc {k : Bool} {d : D} (hc : PDT X T ρ M c k M1) (h1 : k = true → PD X T ρ M1 a d M2) (h2 : k = false → PD X T ρ M1 b d M2) : PD X T ρ M (.IfExp c a b pos) d M2 :=
  pd_cast (pd_if hc h1 h2) (by cases k <;> rfl)
/-! ints -/
theorem ok_i0 {g : Int → Int → Int} {i j : Int} {w : World} : OkR2 w T M (rI0 fun i j => .int (g i j)) (.int i) (.int j) (.int (g i j)) := fun G H v u Q hs r1 r2 k => by
  cases r1
  cases r2
  exact ⟨i, j, rfl, rfl, k _ G H (Step.refl _ _ _) hs (.int _)⟩
theorem ok_ib {g : Int → Int → Bool} {i j : Int} {w : World} : OkR2 w T M (rI0 fun i j => .bl (g i j)) (.int i) (.int j) (.bl (g i j)) := fun G H v u Q hs r1 r2 k => by
  cases r1
  cases r2
  exact ⟨i, j, rfl, rfl, k _ G H (Step.refl _ _ _) hs (.bl _)⟩
theorem ok_i {C : Int → Int → Prop} {g : Int → Int → Int} {i j : Int} {w : World} (h : C i j) : OkR2 w T M (rI C fun i j => .int (g i j)) (.int i) (.int j) (.int (g i j)) := fun G H v u Q hs r1 r2 k => by
  cases r1
  cases r2
  exact ⟨i, j, rfl, rfl, h, k _ G H (Step.refl _ _ _) hs (.int _)⟩
variable {i j : Int}
theorem pd_add (ha : PD X T ρ M a (.int i) M1) (hb : PD X T ρ M1 b (.int j) M2) : PD X T ρ M (.BinOp a .Add b pos) (.int (i + j)) M2 := pd_op op_add ok_i0 ha hb
theorem pd_sub (ha : PD X T ρ M a (.int i) M1) (hb : PD X T ρ M1 b (.int j) M2) : PD X T ρ M (.BinOp a .Sub b pos) (.int (i - j)) M2 := pd_op op_sub ok_i0 ha hb
theorem pd_mul (h : CMul i j) (ha : PD X T ρ M a (.int i) M1) (hb : PD X T ρ M1 b (.int j) M2) : PD X T ρ M (.BinOp a .Mult b pos) (.int (i * j)) M2 := pd_op op_mul (ok_i h) ha hb
theorem pd_mulW (h : CMulW i j) (ha : PD X T ρ M a (.int i) M1) (hb : PD X T ρ M1 b (.int j) M2) : PD X T ρ M (.BinOp a .Mult b pos) (.int (i * j)) M2 := pd_op op_mulW (ok_i h) ha hb
theorem pd_fdiv (h : CDiv i j) (ha : PD X T ρ M a (.int i) M1) (hb : PD X T ρ M1 b (.int j) M2) : PD X T ρ M (.BinOp a .FloorDiv b pos) (.int (i / j)) M2 := pd_op op_fdiv (ok_i h) ha hb
theorem pd_fdivW (h : CDivW i j) (ha : PD X T ρ M a (.int i) M1) (hb : PD X T ρ M1 b (.int j) M2) : PD X T ρ M (.BinOp a .FloorDiv b pos) (.int (i / j)) M2 := pd_op op_fdivW (ok_i h) ha hb
theorem pd_mod (h : 0 < j) (ha : PD X T ρ M a (.int i) M1) (hb : PD X T ρ M1 b (.int j) M2) : PD X T ρ M (.BinOp a .Mod b pos) (.int (i % j)) M2 := pd_op op_mod (ok_i (C := fun _ j => 0 < j) h) ha hb
theorem pd_pow (h : CPow i j) (ha : PD X T ρ M a (.int i) M1) (hb : PD X T ρ M1 b (.int j) M2) : PD X T ρ M (.BinOp a .Pow b pos) (.int (i ^ j.toNat)) M2 := pd_op op_pow (ok_i h) ha hb
theorem pd_lt (ha : PD X T ρ M a (.int i) M1) (hb : PD X T ρ M1 b (.int j) M2) : PD X T ρ M (.Compare a [.Lt] [b] pos) (.bl (decide (i < j))) M2 := pd_cmp op_lt ok_ib ha hb
theorem pd_le (ha : PD X T ρ M a (.int i) M1) (hb : PD X T ρ M1 b (.int j) M2) : PD X T ρ M (.Compare a [.LtE] [b] pos) (.bl (decide (i ≤ j))) M2 := pd_cmp op_le ok_ib ha hb
theorem pd_gt (ha : PD X T ρ M a (.int i) M1) (hb : PD X T ρ M1 b (.int j) M2) : PD X T ρ M (.Compare a [.Gt] [b] pos) (.bl (decide (j < i))) M2 := pd_cmp op_gt ok_ib ha hb
theorem pd_ge (ha : PD X T ρ M a (.int i) M1) (hb : PD X T ρ M1 b (.int j) M2) : PD X T ρ M (.Compare a [.GtE] [b] pos) (.bl (decide (j ≤ i))) M2 := pd_cmp op_ge ok_ib ha hb
theorem pdt_lt (ha : PD X T ρ M a (.int i) M1) (hb : PD X T ρ M1 b (.int j) M2) : PDT X T ρ M (.Compare a [.Lt] [b] pos) (decide (i < j)) M2 := pdt_cmp op_lt ok_ib ha hb
theorem pdt_le (ha : PD X T ρ M a (.int i) M1) (hb : PD X T ρ M1 b (.int j) M2) : PDT X T ρ M (.Compare a [.LtE] [b] pos) (decide (i ≤ j)) M2 := pdt_cmp op_le ok_ib ha hb
theorem pdt_gt (ha : PD X T ρ M a (.int i) M1) (hb : PD X T ρ M1 b (.int j) M2) : PDT X T ρ M (.Compare a [.Gt] [b] pos) (decide (j < i)) M2 := pdt_cmp op_gt ok_ib ha hb
theorem pdt_ge (ha : PD X T ρ M a (.int i) M1) (hb : PD X T ρ M1 b (.int j) M2) : PDT X T ρ M (.Compare a [.GtE] [b] pos) (decide (j ≤ i)) M2 := pdt_cmp op_ge ok_ib ha hb
/-! scalars: ==, != -/
def D.sv : D → Option V
  | .non => some .non
  | .bl b => some (.bl b)
  | .int i => some (.int i)
  | .str x => some (.str x)
  | _ => none
theorem Dt.sv {w : World} {G : Hp} {v x : V} {d : D} (h : Dt w G v d) (e : d.sv = some x) : v = x := by
  cases h <;> first | (cases e; rfl) | cases e
theorem ok_eq {w : World} {x y : V} {k : Bool} (hx : da.sv = some x) (hy : db.sv = some y) (hs : scal x y = true) (hk : decide (x = y) = k) : OkR2 w T M rEq da db (.bl k) := fun G H v u Q hs' r1 r2 q => by
  cases r1.sv hx
  cases r2.sv hy
  subst hk
  exact ⟨hs, q _ G H (Step.refl _ _ _) hs' (.bl _)⟩
theorem ok_ne {w : World} {x y : V} {k : Bool} (hx : da.sv = some x) (hy : db.sv = some y) (hs : scal x y = true) (hk : (!decide (x = y)) = k) : OkR2 w T M rNe da db (.bl k) := fun G H v u Q hs' r1 r2 q => by
  cases r1.sv hx
  cases r2.sv hy
  subst hk
  exact ⟨hs, q _ G H (Step.refl _ _ _) hs' (.bl _)⟩
theorem vi_eq {i j : Int} : decide (V.int i = V.int j) = decide (i = j) := by
  by_cases h : i = j
  · subst h; simp
  · rw [decide_eq_false h, decide_eq_false]; intro q; cases q; exact h rfl
theorem vb_eq {i j : Bool} : decide (V.bl i = V.bl j) = decide (i = j) := by
  by_cases h : i = j
  · subst h; simp
  · rw [decide_eq_false h, decide_eq_false]; intro q; cases q; exact h rfl
theorem vs_eq {i j : Str} : decide (V.str i = V.str j) = decide (i = j) := by
  by_cases h : i = j
  · subst h; simp
  · rw [decide_eq_false h, decide_eq_false]; intro q; cases q; exact h rfl
theorem pd_eqI (ha : PD X T ρ M a (.int i) M1) (hb : PD X T ρ M1 b (.int j) M2) : PD X T ρ M (.Compare a [.Eq] [b] pos) (.bl (decide (i = j))) M2 := pd_cmp op_eq (ok_eq rfl rfl rfl vi_eq) ha hb
theorem pd_neI (ha : PD X T ρ M a (.int i) M1) (hb : PD X T ρ M1 b (.int j) M2) : PD X T ρ M (.Compare a [.NotEq] [b] pos) (.bl (!decide (i = j))) M2 := pd_cmp op_ne (ok_ne rfl rfl rfl (by rw [vi_eq])) ha hb
theorem pdt_eqI (ha : PD X T ρ M a (.int i) M1) (hb : PD X T ρ M1 b (.int j) M2) : PDT X T ρ M (.Compare a [.Eq] [b] pos) (decide (i = j)) M2 := pdt_cmp op_eq (ok_eq rfl rfl rfl vi_eq) ha hb
theorem pdt_neI (ha : PD X T ρ M a (.int i) M1) (hb : PD X T ρ M1 b (.int j) M2) : PDT X T ρ M (.Compare a [.NotEq] [b] pos) (!decide (i = j)) M2 := pdt_cmp op_ne (ok_ne rfl rfl rfl (by rw [vi_eq])) ha hb
variable {p q : Bool}
theorem pd_eqB (ha : PD X T ρ M a (.bl p) M1) (hb : PD X T ρ M1 b (.bl q) M2) : PD X T ρ M (.Compare a [.Eq] [b] pos) (.bl (decide (p = q))) M2 := pd_cmp op_eq (ok_eq rfl rfl rfl vb_eq) ha hb
theorem pd_neB (ha : PD X T ρ M a (.bl p) M1) (hb : PD X T ρ M1 b (.bl q) M2) : PD X T ρ M (.Compare a [.NotEq] [b] pos) (.bl (!decide (p = q))) M2 := pd_cmp op_ne (ok_ne rfl rfl rfl (by rw [vb_eq])) ha hb
theorem pdt_eqB (ha : PD X T ρ M a (.bl p) M1) (hb : PD X T ρ M1 b (.bl q) M2) : PDT X T ρ M (.Compare a [.Eq] [b] pos) (decide (p = q)) M2 := pdt_cmp op_eq (ok_eq rfl rfl rfl vb_eq) ha hb
theorem pdt_neB (ha : PD X T ρ M a (.bl p) M1) (hb : PD X T ρ M1 b (.bl q) M2) : PDT X T ρ M (.Compare a [.NotEq] [b] pos) (!decide (p = q)) M2 := pdt_cmp op_ne (ok_ne rfl rfl rfl (by rw [vb_eq])) ha hb
variable {x y : Str}
theorem pd_eqS (ha : PD X T ρ M a (.str x) M1) (hb : PD X T ρ M1 b (.str y) M2) : PD X T ρ M (.Compare a [.Eq] [b] pos) (.bl (decide (x = y))) M2 := pd_cmp op_eq (ok_eq rfl rfl rfl vs_eq) ha hb
theorem pd_neS (ha : PD X T ρ M a (.str x) M1) (hb : PD X T ρ M1 b (.str y) M2) : PD X T ρ M (.Compare a [.NotEq] [b] pos) (.bl (!decide (x = y))) M2 := pd_cmp op_ne (ok_ne rfl rfl rfl (by rw [vs_eq])) ha hb
theorem pdt_eqS (ha : PD X T ρ M a (.str x) M1) (hb : PD X T ρ M1 b (.str y) M2) : PDT X T ρ M (.Compare a [.Eq] [b] pos) (decide (x = y)) M2 := pdt_cmp op_eq (ok_eq rfl rfl rfl vs_eq) ha hb
theorem pdt_neS (ha : PD X T ρ M a (.str x) M1) (hb : PD X T ρ M1 b (.str y) M2) : PDT X T ρ M (.Compare a [.NotEq] [b] pos) (!decide (x = y)) M2 := pdt_cmp op_ne (ok_ne rfl rfl rfl (by rw [vs_eq])) ha hb
/-! is None -/
def D.isN : D → Bool
  | .non => true
  | _ => false
theorem Dt.isN {w : World} {G : Hp} {v : V} {d : D} (h : Dt w G v d) : decide (v = .non) = d.isN := by
  cases h <;> rfl
theorem pd_isN {k : Nat} {pos' : Pos} (ha : PD X T ρ M a d M1) : PD X T ρ M (.Compare a [.Is] [.Constant .none k pos'] pos) (.bl d.isN) M1 :=
  pd_cmp op_isN (fun G H v u Q hs r1 r2 q => by cases r2; exact ⟨rfl, by rw [r1.isN]; exact q _ G H (Step.refl _ _ _) hs (.bl _)⟩) ha pd_non
theorem pd_notN {k : Nat} {pos' : Pos} (ha : PD X T ρ M a d M1) : PD X T ρ M (.Compare a [.IsNot] [.Constant .none k pos'] pos) (.bl (!d.isN)) M1 :=
  pd_cmp op_notN (fun G H v u Q hs r1 r2 q => by cases r2; exact ⟨rfl, by rw [r1.isN]; exact q _ G H (Step.refl _ _ _) hs (.bl _)⟩) ha pd_non
theorem pdt_isN {k : Nat} {pos' : Pos} (ha : PD X T ρ M a d M1) : PDT X T ρ M (.Compare a [.Is] [.Constant .none k pos'] pos) d.isN M1 :=
  pdt_cmp op_isN (fun G H v u Q hs r1 r2 q => by cases r2; exact ⟨rfl, by rw [r1.isN]; exact q _ G H (Step.refl _ _ _) hs (.bl _)⟩) ha pd_non
theorem pdt_notN {k : Nat} {pos' : Pos} (ha : PD X T ρ M a d M1) : PDT X T ρ M (.Compare a [.IsNot] [.Constant .none k pos'] pos) (!d.isN) M1 :=
  pdt_cmp op_notN (fun G H v u Q hs r1 r2 q => by cases r2; exact ⟨rfl, by rw [r1.isN]; exact q _ G H (Step.refl _ _ _) hs (.bl _)⟩) ha pd_non
/-! argument lists, displays -/
theorem pdl_nil : PDL X T ρ M [] [] M := pa_nil.imp fun σ H Q ⟨G, hs, sl, k⟩ => k [] G H (Step.refl _ _ _) hs .nil
theorem pdl_cons {ds : List D} (h : PD X T ρ M e d M1) (r : PDL X T ρ M1 es ds M2) (hs : starEach (e :: es) X.env = (false, eval e X.env) :: starEach es X.env := by rfl) : PDL X T ρ M (e :: es) (d :: ds) M2 :=
  (pa_cons h r hs).imp fun σ H Q ⟨G, hs, sl, k⟩ => ⟨G, hs, sl, fun v G1 H1 st1 hs1 r1 => ⟨G1, hs1, sl.up st1.up, fun vs G2 H2 st2 hs2 r2 => k (v :: vs) G2 H2 (st1.trans st2) hs2 (.cons (r1.up st2.up) r2)⟩⟩
theorem pdl_1 (h : PD X T ρ M e d M1) (hs : starEach [e] X.env = (false, eval e X.env) :: starEach [] X.env := by rfl) : PDL X T ρ M [e] [d] M1 := pdl_cons h pdl_nil hs
theorem pd_tup {ds : List D} {x1} (h : PDL X T ρ M es ds M1) (hl : ds.length ≤ sizeLine := by exact Nat.le_of_ble_eq_true rfl) : PD X T ρ M (.Tuple es x1 pos) (.tup ds) M1 :=
  (pe_tup h).imp fun σ H Q ⟨G, hs, sl, k⟩ => ⟨G, hs, sl, fun vs G1 H1 st1 hs1 r1 => ⟨by rw [r1.length]; exact hl, fun p hp =>
    k _ _ _ (st1.trans (Step.newI hs1 hp)) (hs1.new hp fun _ q => by cases q) (.tup upd_same (r1.up (up_upd (hs1.freshG hp))))⟩⟩
theorem pd_lst {ds : List D} (h : PDL X T ρ M es ds M1) (hl : ds.length ≤ sizeLine := by exact Nat.le_of_ble_eq_true rfl) : PD X T ρ M (.List es pos) (.lst ds) M1 :=
  (pe_lst h).imp fun σ H Q ⟨G, hs, sl, k⟩ => ⟨G, hs, sl, fun vs G1 H1 st1 hs1 r1 => ⟨by rw [r1.length]; exact hl, fun p hp =>
    k _ _ _ (st1.trans (Step.newI hs1 hp)) (hs1.new hp fun _ q => by cases q) (.lst upd_same (r1.up (up_upd (hs1.freshG hp))))⟩⟩
end
end LW

set_option Elab.async false
set_option linter.all false
set_option maxRecDepth 100000
set_option maxHeartbeats 2000000
/-! LC: lists and tuples, builtins by values, attributes. -/
namespace LW
open PySem PySem.Spec PyProof.Rows L2
/-- d is a list of ds: a datum, or one of ours -/
inductive LV (M : Mem) : D → List D → Prop
  | dat {ds : List D} : LV M (.lst ds) ds
  | own {p : Addr} {ds : List D} (j : Nat) (h : M[j]? = some (some (p, .lst ds)) := by rfl) : LV M (.ref p) ds
/-- d is an instance with the fields fs -/
inductive OV (M : Mem) : D → Addr → List (Str × D) → Prop
  | dat {C : Addr} {fs : List (Str × D)} : OV M (.obj C fs) C fs
  | own {p C : Addr} {fs : List (Str × D)} (j : Nat) (h : M[j]? = some (some (p, .obj C fs)) := by rfl) : OV M (.ref p) C fs
section
variable {w : World} {T : List Addr} {G H : Hp} {M : Mem} {v : V} {d : D}
theorem mem_of {j : Nat} {x : Option (Addr × Ob)} (h : M[j]? = some x) : x ∈ M := List.mem_of_getElem? h
theorem LV.get {ds : List D} (l : LV M d ds) (hs : HS w T G H M) (r : Dt w G v d) : ∃ a xs, v = .ref a ∧ H a = some (.lst xs) ∧ DtL w G xs ds := by
  cases l with
  | dat =>
    cases r with
    | lst e r => exact ⟨_, _, rfl, hs.sub _ _ e, r⟩
  | own j h =>
    cases r
    obtain ⟨_, xs, e, r⟩ := hs.mem _ _ (mem_of h)
    exact ⟨_, xs, rfl, e, r⟩
theorem Dt.tupH {ds : List D} (r : Dt w G v (.tup ds)) (hs : HS w T G H M) : ∃ a xs, v = .ref a ∧ H a = some (.tup xs) ∧ DtL w G xs ds := by
  cases r with
  | tup e r => exact ⟨_, _, rfl, hs.sub _ _ e, r⟩
theorem OV.get {C : Addr} {fs : List (Str × D)} (l : OV M d C fs) (hs : HS w T G H M) (r : Dt w G v d) : ∃ a dx ws, v = .ref a ∧ H a = some (.ins C dx ws) ∧ DtF w G ws fs := by
  cases l with
  | dat =>
    cases r with
    | obj e r => exact ⟨_, _, _, rfl, hs.sub _ _ e, r⟩
  | own j h =>
    cases r
    obtain ⟨_, dx, xs, e, r⟩ := hs.mem _ _ (mem_of h)
    exact ⟨_, dx, xs, rfl, e, r⟩
theorem DtL.atI {vs : List V} {ds : List D} (r : DtL w G vs ds) {i : Int} (h : L2.atI ds i = some d) : ∃ v, L2.atI vs i = some v ∧ Dt w G v d := by
  unfold L2.atI at h ⊢
  rw [r.length]
  cases e : ixN ds.length i with
  | none =>
    rw [e] at h
    cases h
  | some j =>
    rw [e] at h
    exact r.get h
end
theorem atI_of {α : Type} {xs : List α} {i : Int} {v : α} (h0 : 0 ≤ i) (h : xs[i.toNat]? = some v) : L2.atI xs i = some v := by
  have e : i = ((i.toNat : Nat) : Int) := by omega
  rw [e]
  exact atI_nat h
section
variable {X : Cx} {T : List Addr} {ρ : List (Option D)} {M M1 M2 M3 : Mem} {d da db dc : D} {a b c e : Expr} {es : List Expr} {pos : Pos} {ds : List D}
/-! subscripts -/
theorem pd_ix {r : R2} (ho : IxR X r) (hr : OkR2 X.w T M2 r da db d) (ha : PD X T ρ M a da M1) (hb : PD X T ρ M1 b db M2) (hs : PlainIx b := by exact fun _ _ => rfl) : PD X T ρ M (.Subscript a b pos) d M2 :=
  (pe_ix ho ha hb hs).imp fun σ H Q h => two_in (ta := tE X.w T ρ M da M1) (tb := tE X.w T ρ M1 db M2) hr σ H Q h
theorem pd_ixL {i : Int} (l : LV M2 da ds) (h : L2.atI ds i = some d) (ha : PD X T ρ M a da M1) (hb : PD X T ρ M1 b (.int i) M2) (hs : PlainIx b := by exact fun _ _ => rfl) : PD X T ρ M (.Subscript a b pos) d M2 :=
  pd_ix ix_list (fun G H v u Q hs r1 r2 k => by
    obtain ⟨p, xs, rfl, e, r⟩ := l.get hs r1
    obtain ⟨z, h1, h2⟩ := r.atI h
    cases r2
    exact ⟨p, xs, i, z, rfl, rfl, SqL.of e, h1, k _ G H (Step.refl _ _ _) hs h2⟩) ha hb hs
theorem pd_ixT {i : Int} (h : L2.atI ds i = some d) (ha : PD X T ρ M a (.tup ds) M1) (hb : PD X T ρ M1 b (.int i) M2) (hs : PlainIx b := by exact fun _ _ => rfl) : PD X T ρ M (.Subscript a b pos) d M2 :=
  pd_ix ix_tup (fun G H v u Q hs r1 r2 k => by
    obtain ⟨p, xs, rfl, e, r⟩ := r1.tupH hs
    obtain ⟨z, h1, h2⟩ := r.atI h
    cases r2
    exact ⟨p, xs, i, z, rfl, rfl, SqT.of e, h1, k _ G H (Step.refl _ _ _) hs h2⟩) ha hb hs
theorem pd_ixS {i : Int} {z : Str} {c : Nat} (hz : z.length ≤ sizeLine) (h : L2.atI z.cps.toList i = some c) (ha : PD X T ρ M a (.str z) M1) (hb : PD X T ρ M1 b (.int i) M2) (hs : PlainIx b := by exact fun _ _ => rfl) : PD X T ρ M (.Subscript a b pos) (.str ⟨#[c]⟩) M2 :=
  pd_ix ix_str (fun G H v u Q hs r1 r2 k => by
    cases r1
    cases r2
    exact ⟨z, i, c, rfl, rfl, hz, h, k _ G H (Step.refl _ _ _) hs (.str _)⟩) ha hb hs
/-! slices -/
def tEO (w : World) (T : List Addr) (ρ : List (Option D)) (M : Mem) (o : Option Int) : TO := fun σ H Q => ∃ G, HS w T G H M ∧ SL w G σ ρ ∧ ∀ G' H', Step G H M G' H' M → HS w T G' H' M → Q o H'
abbrev PDO (X : Cx) (T : List Addr) (ρ : List (Option D)) (M : Mem) (e : Option Expr) (o : Option Int) : Prop := PO X e (tEO X.w T ρ M o)
theorem _root_.L2.PO.imp {eo : Option Expr} {t t' : TO} (h : PO X eo t) (k : ∀ σ H Q, t' σ H Q → t σ H Q) : PO X eo t' :=
  ⟨fun pins s σ H Q I q => h.run pins s σ H Q I (k _ _ _ q)⟩
theorem pdo_none : PDO X T ρ M none none := po_none.imp fun σ H Q ⟨G, hs, sl, k⟩ => k G H (Step.refl _ _ _) hs
theorem pdo_some {i : Int} (h : PD X T ρ M e (.int i) M) : PDO X T ρ M (some e) (some i) := (po_some h).imp fun σ H Q ⟨G, hs, sl, k⟩ => ⟨G, hs, sl, fun v G' H' st hs' r => by cases r; exact ⟨i, rfl, k G' H' st hs'⟩⟩
theorem sl_in {r : V → Option Int → Option Int → Hp → VK → Prop} {lo hi : Option Int} (hr : ∀ (G H : Hp) (v : V) (Q : VK), HS X.w T G H M → Dt X.w G v da →
    (∀ z G' H', Step G H M G' H' M → HS X.w T G' H' M → Dt X.w G' z d → Q z H') → r v lo hi H Q) (σ : L2.St) (H : Hp) (Q : VK) (h : tE X.w T ρ M d M σ H Q) :
    tSl r (tE X.w T ρ M da M) (tEO X.w T ρ M lo) (tEO X.w T ρ M hi) σ H Q := by
  obtain ⟨G, hs, sl, k⟩ := h
  refine ⟨G, hs, sl, fun v G1 H1 st1 hs1 r1 => ⟨G1, hs1, sl.up st1.up, fun G2 H2 st2 hs2 => ⟨G2, hs2, (sl.up st1.up).up st2.up, fun G3 H3 st3 hs3 => ?_⟩⟩⟩
  exact hr G3 H3 v Q hs3 ((r1.up st2.up).up st3.up) fun z G' H' st hs' rz => k z G' H' (((st1.trans st2).trans st3).trans st) hs' rz
def cutD {α : Type} (xs : List α) (lo hi : Option Int) : List α := (xs.drop (HT.sIx xs.length 0 lo)).take (HT.sIx xs.length xs.length hi - HT.sIx xs.length 0 lo)
theorem DtL.cut {w : World} {G : Hp} {vs : List V} {ds : List D} (r : DtL w G vs ds) (lo hi : Option Int) : DtL w G (cutV vs lo hi) (cutD ds lo hi) := by
  unfold cutV cutD
  rw [r.length]
  exact (r.drop _).take _
variable {lo hi : Option Expr} {p2 : Pos} {i j : Option Int}
theorem pd_slL (l : LV M da ds) (ha : PD X T ρ M a da M) (h1 : PDO X T ρ M lo i) (h2 : PDO X T ρ M hi j) : PD X T ρ M (.Subscript a (.Slice lo hi none p2) pos) (.lst (cutD ds i j)) M :=
  (pe_slice sl_list ha h1 h2).imp fun σ H Q h => sl_in (fun G H v Q hs r k => by
    obtain ⟨p, xs, rfl, e, r⟩ := l.get hs r
    refine ⟨p, xs, rfl, SqL.of e, fun q hq => ?_⟩
    exact k _ _ _ (Step.newI hs hq) (hs.new hq fun _ z => by cases z) (.lst upd_same ((r.cut i j).up (up_upd (hs.freshG hq))))) σ H Q h
theorem cut_whole {w : World} {G : Hp} {xs : List V} {ds : List D} (r : DtL w G xs ds) (h : HT.sIx xs.length 0 i = 0 ∧ HT.sIx xs.length xs.length j = xs.length) : cutD ds i j = ds := by
  unfold cutD
  rw [← r.length, h.1, h.2, List.drop_zero, List.take_of_length_le (by rw [r.length]; omega)]
theorem pd_slT (ha : PD X T ρ M a (.tup ds) M) (h1 : PDO X T ρ M lo i) (h2 : PDO X T ρ M hi j) : PD X T ρ M (.Subscript a (.Slice lo hi none p2) pos) (.tup (cutD ds i j)) M :=
  (pe_slice sl_tupA ha h1 h2).imp fun σ H Q h => sl_in (fun G H v Q hs r0 k => by
    obtain ⟨p, xs, rfl, e, r⟩ := r0.tupH hs
    refine ⟨p, xs, rfl, SqT.of e, fun q => ?_, fun _ q hq => ?_⟩
    · rw [cut_whole r q] at k
      exact k _ G H (Step.refl _ _ _) hs r0
    · exact k _ _ _ (Step.newI hs hq) (hs.new hq fun _ z => by cases z) (.tup upd_same ((r.cut i j).up (up_upd (hs.freshG hq))))) σ H Q h
/-! a builtin called by its name -/
theorem pd_callB {id : String} {x : Str} {r : List V → Hp → VK → Prop} {p : Pos} (hc : CallR X (.builtin id) r) (hr : OkC X.w T M2 r ds d) (hm : X.mg x = none) (hv : bootBuiltins x = some (.builtin id)) (ha : PDL X T ρ M (e :: es) ds M2)
    (hg : Gl X x := by rfl) (hn : x ≠ "__name__" := by decide) (hdb : (x == ("__debug__" : Str)) = false := by decide)
    (he : starEach (e :: es) X.env = (false, eval e X.env) :: starEach es X.env := by rfl) (hpl : (backTo pos (starEach es X.env)).any (·.1) = false := by rfl) : PD X T ρ M (.Call (.Name x p) (e :: es) [] pos) d M2 :=
  (pe_callB hc hg hm hv ha hn hdb he hpl).imp fun σ H Q ⟨G, hs, sl, k⟩ => ⟨G, hs, sl, fun vs G1 H1 st1 hs1 r1 => hr G1 H1 vs Q hs1 r1 fun z G' H' st hs' rz => k z G' H' (st1.trans st) hs' rz⟩
theorem pd_callT {id : String} {x : Str} {r : List V → Hp → VK → Prop} {p : Pos} (hc : CallR X (.type id) r) (hr : OkC X.w T M2 r ds d) (hm : X.mg x = none) (hv : bootBuiltins x = some (.type id)) (ha : PDL X T ρ M (e :: es) ds M2)
    (hg : Gl X x := by rfl) (hn : x ≠ "__name__" := by decide) (hdb : (x == ("__debug__" : Str)) = false := by decide)
    (he : starEach (e :: es) X.env = (false, eval e X.env) :: starEach es X.env := by rfl) (hpl : (backTo pos (starEach es X.env)).any (·.1) = false := by rfl) : PD X T ρ M (.Call (.Name x p) (e :: es) [] pos) d M2 :=
  (pe_callTy hc hg hm hv ha hn hdb he hpl).imp fun σ H Q ⟨G, hs, sl, k⟩ => ⟨G, hs, sl, fun vs G1 H1 st1 hs1 r1 => hr G1 H1 vs Q hs1 r1 fun z G' H' st hs' rz => k z G' H' (st1.trans st) hs' rz⟩
theorem DtL.one {w : World} {G : Hp} {vs : List V} {d : D} (r : DtL w G vs [d]) : ∃ v, vs = [v] ∧ Dt w G v d := by
  cases r with
  | cons h t =>
    cases t
    exact ⟨_, rfl, h⟩
theorem DtL.two {w : World} {G : Hp} {vs : List V} {d d' : D} (r : DtL w G vs [d, d']) : ∃ v u, vs = [v, u] ∧ Dt w G v d ∧ Dt w G u d' := by
  cases r with
  | cons h t =>
    obtain ⟨u, rfl, h2⟩ := t.one
    exact ⟨_, u, rfl, h, h2⟩
variable {p : Pos}
theorem pd_lenL (l : LV M1 da ds) (hm : X.mg "len" = none) (ha : PD X T ρ M a da M1) (hg : Gl X "len" := by rfl) (he : starEach [a] X.env = (false, eval a X.env) :: starEach [] X.env := by rfl) :
    PD X T ρ M (.Call (.Name "len" p) [a] [] pos) (.int (ds.length : Int)) M1 :=
  pd_callB call_len_seq (fun G H vs Q hs r k => by
    obtain ⟨v, rfl, rr⟩ := r.one
    obtain ⟨p, xs, rfl, e, r⟩ := l.get hs rr
    exact ⟨p, xs, rfl, .inl (SqL.of e), by rw [r.length]; exact k _ G H (Step.refl _ _ _) hs (.int _)⟩) hm PySem.boot_len (pdl_1 ha he) hg (by decide) (by decide) he
theorem pd_lenT (hm : X.mg "len" = none) (ha : PD X T ρ M a (.tup ds) M1) (hg : Gl X "len" := by rfl) (he : starEach [a] X.env = (false, eval a X.env) :: starEach [] X.env := by rfl) :
    PD X T ρ M (.Call (.Name "len" p) [a] [] pos) (.int (ds.length : Int)) M1 :=
  pd_callB call_len_seq (fun G H vs Q hs r k => by
    obtain ⟨v, rfl, rr⟩ := r.one
    obtain ⟨p, xs, rfl, e, r⟩ := rr.tupH hs
    exact ⟨p, xs, rfl, .inr (SqT.of e), by rw [r.length]; exact k _ G H (Step.refl _ _ _) hs (.int _)⟩) hm PySem.boot_len (pdl_1 ha he) hg (by decide) (by decide) he
theorem pd_lenS {z : Str} (hz : z.length ≤ sizeLine) (hm : X.mg "len" = none) (ha : PD X T ρ M a (.str z) M1) (hg : Gl X "len" := by rfl) (he : starEach [a] X.env = (false, eval a X.env) :: starEach [] X.env := by rfl) :
    PD X T ρ M (.Call (.Name "len" p) [a] [] pos) (.int (z.length : Int)) M1 :=
  pd_callB call_len_str (fun G H vs Q hs r k => by
    obtain ⟨v, rfl, rr⟩ := r.one
    cases rr
    exact ⟨z, rfl, hz, k _ G H (Step.refl _ _ _) hs (.int _)⟩) hm PySem.boot_len (pdl_1 ha he) hg (by decide) (by decide) he
theorem pd_abs {i : Int} (hm : X.mg "abs" = none) (ha : PD X T ρ M a (.int i) M1) (hg : Gl X "abs" := by rfl) (he : starEach [a] X.env = (false, eval a X.env) :: starEach [] X.env := by rfl) :
    PD X T ρ M (.Call (.Name "abs" p) [a] [] pos) (.int (if i < 0 then -i else i)) M1 :=
  pd_callB call_abs (fun G H vs Q hs r k => by
    obtain ⟨v, rfl, rr⟩ := r.one
    cases rr
    exact ⟨i, rfl, k _ G H (Step.refl _ _ _) hs (.int _)⟩) hm (by decide +kernel) (pdl_1 ha he) hg (by decide) (by decide) he
theorem pd_intI {i : Int} (hm : X.mg "int" = none) (ha : PD X T ρ M a (.int i) M1) (hg : Gl X "int" := by rfl) (he : starEach [a] X.env = (false, eval a X.env) :: starEach [] X.env := by rfl) :
    PD X T ρ M (.Call (.Name "int" p) [a] [] pos) (.int i) M1 :=
  pd_callT call_int1 (fun G H vs Q hs r k => by
    obtain ⟨v, rfl, rr⟩ := r.one
    cases rr
    exact .inl ⟨i, rfl, k _ G H (Step.refl _ _ _) hs (.int _)⟩) hm (by decide +kernel) (pdl_1 ha he) hg (by decide) (by decide) he
theorem pd_intB {i : Bool} (hm : X.mg "int" = none) (ha : PD X T ρ M a (.bl i) M1) (hg : Gl X "int" := by rfl) (he : starEach [a] X.env = (false, eval a X.env) :: starEach [] X.env := by rfl) :
    PD X T ρ M (.Call (.Name "int" p) [a] [] pos) (.int (if i then 1 else 0)) M1 :=
  pd_callT call_int1 (fun G H vs Q hs r k => by
    obtain ⟨v, rfl, rr⟩ := r.one
    cases rr
    exact .inr ⟨i, rfl, k _ G H (Step.refl _ _ _) hs (.int _)⟩) hm (by decide +kernel) (pdl_1 ha he) hg (by decide) (by decide) he
theorem pd_strI {i : Int} (hz : i.natAbs.log2 < 1920) (hm : X.mg "str" = none) (ha : PD X T ρ M a (.int i) M1) (hg : Gl X "str" := by rfl) (he : starEach [a] X.env = (false, eval a X.env) :: starEach [] X.env := by rfl) :
    PD X T ρ M (.Call (.Name "str" p) [a] [] pos) (.str (toString i)) M1 :=
  pd_callT call_str_int (fun G H vs Q hs r k => by
    obtain ⟨v, rfl, rr⟩ := r.one
    cases rr
    exact ⟨i, rfl, hz, k _ G H (Step.refl _ _ _) hs (.str _)⟩) hm (by decide +kernel) (pdl_1 ha he) hg (by decide) (by decide) he
/-- tuple(list), tuple(tuple), list(..) -/
theorem pd_tupL (l : LV M1 da ds) (hm : X.mg "tuple" = none) (ha : PD X T ρ M a da M1) (hg : Gl X "tuple" := by rfl) (he : starEach [a] X.env = (false, eval a X.env) :: starEach [] X.env := by rfl) :
    PD X T ρ M (.Call (.Name "tuple" p) [a] [] pos) (.tup ds) M1 :=
  pd_callT call_tuple_of (fun G H vs Q hs r k => by
    obtain ⟨v, rfl, rr⟩ := r.one
    obtain ⟨p, xs, rfl, e, r⟩ := l.get hs rr
    exact ⟨p, xs, rfl, .inl ⟨SqL.of e, fun q hq => k _ _ _ (Step.newI hs hq) (hs.new hq fun _ z => by cases z) (.tup upd_same (r.up (up_upd (hs.freshG hq))))⟩⟩) hm (by decide +kernel) (pdl_1 ha he) hg (by decide) (by decide) he
theorem pd_tupT (hm : X.mg "tuple" = none) (ha : PD X T ρ M a (.tup ds) M1) (hg : Gl X "tuple" := by rfl) (he : starEach [a] X.env = (false, eval a X.env) :: starEach [] X.env := by rfl) :
    PD X T ρ M (.Call (.Name "tuple" p) [a] [] pos) (.tup ds) M1 :=
  pd_callT call_tuple_of (fun G H vs Q hs r k => by
    obtain ⟨v, rfl, r0⟩ := r.one
    obtain ⟨p, xs, rfl, e, r⟩ := r0.tupH hs
    exact ⟨p, xs, rfl, .inr ⟨SqT.of e, k _ G H (Step.refl _ _ _) hs r0⟩⟩) hm (by decide +kernel) (pdl_1 ha he) hg (by decide) (by decide) he
theorem pd_lstL (l : LV M1 da ds) (hm : X.mg "list" = none) (ha : PD X T ρ M a da M1) (hg : Gl X "list" := by rfl) (he : starEach [a] X.env = (false, eval a X.env) :: starEach [] X.env := by rfl) :
    PD X T ρ M (.Call (.Name "list" p) [a] [] pos) (.lst ds) M1 :=
  pd_callT call_list_of (fun G H vs Q hs r k => by
    obtain ⟨v, rfl, rr⟩ := r.one
    obtain ⟨p, xs, rfl, e, r⟩ := l.get hs rr
    exact ⟨p, xs, rfl, .inl (SqL.of e), fun q hq => k _ _ _ (Step.newI hs hq) (hs.new hq fun _ z => by cases z) (.lst upd_same (r.up (up_upd (hs.freshG hq))))⟩) hm (by decide +kernel) (pdl_1 ha he) hg (by decide) (by decide) he
theorem pd_lstT (hm : X.mg "list" = none) (ha : PD X T ρ M a (.tup ds) M1) (hg : Gl X "list" := by rfl) (he : starEach [a] X.env = (false, eval a X.env) :: starEach [] X.env := by rfl) :
    PD X T ρ M (.Call (.Name "list" p) [a] [] pos) (.lst ds) M1 :=
  pd_callT call_list_of (fun G H vs Q hs r k => by
    obtain ⟨v, rfl, rr⟩ := r.one
    obtain ⟨p, xs, rfl, e, r⟩ := rr.tupH hs
    exact ⟨p, xs, rfl, .inr (SqT.of e), fun q hq => k _ _ _ (Step.newI hs hq) (hs.new hq fun _ z => by cases z) (.lst upd_same (r.up (up_upd (hs.freshG hq))))⟩) hm (by decide +kernel) (pdl_1 ha he) hg (by decide) (by decide) he
/-- sum, max, min of a list of ints -/
theorem pd_sumL {ns : List Int} (l : LV M1 da (ns.map D.int)) (hm : X.mg "sum" = none) (ha : PD X T ρ M a da M1) (hc : X.calm = true := by rfl) (hg : Gl X "sum" := by rfl) (he : starEach [a] X.env = (false, eval a X.env) :: starEach [] X.env := by rfl) :
    PD X T ρ M (.Call (.Name "sum" p) [a] [] pos) (.int ns.sum) M1 :=
  pd_callB (cr_sum hc) (fun G H vs Q hs r k => by
    obtain ⟨v, rfl, rr⟩ := r.one
    obtain ⟨p, xs, rfl, e, r⟩ := l.get hs rr
    exact ⟨p, ns, rfl, SqL.of (r.ints ▸ e), k _ G H (Step.refl _ _ _) hs (.int _)⟩) hm (by decide +kernel) (pdl_1 ha he) hg (by decide) (by decide) he
/-- the greatest, the least of a list of ints -/
def lmax : List Int → Int
  | [] => 0
  | [x] => x
  | x :: y :: r => max x (lmax (y :: r))
def lmin : List Int → Int
  | [] => 0
  | [x] => x
  | x :: y :: r => min x (lmin (y :: r))
theorem lmax_spec : ∀ {ns : List Int}, 0 < ns.length → lmax ns ∈ ns ∧ ∀ y ∈ ns, y ≤ lmax ns
  | [], h => absurd h (by decide)
  | [x], _ => ⟨List.mem_cons_self, fun y hy => by rw [List.mem_singleton.mp hy]; exact Int.le_refl _⟩
  | x :: y :: r, _ => by
    obtain ⟨h1, h2⟩ := lmax_spec (ns := y :: r) (Nat.succ_pos _)
    unfold lmax
    refine ⟨?_, fun z hz => ?_⟩
    · rcases Int.le_total x (lmax (y :: r)) with q | q
      · rw [Int.max_eq_right q]; exact List.mem_cons_of_mem _ h1
      · rw [Int.max_eq_left q]; exact List.mem_cons_self
    · rcases List.mem_cons.mp hz with e | e
      · rw [e]; exact Int.le_max_left _ _
      · exact Int.le_trans (h2 z e) (Int.le_max_right _ _)
theorem lmin_spec : ∀ {ns : List Int}, 0 < ns.length → lmin ns ∈ ns ∧ ∀ y ∈ ns, lmin ns ≤ y
  | [], h => absurd h (by decide)
  | [x], _ => ⟨List.mem_cons_self, fun y hy => by rw [List.mem_singleton.mp hy]; exact Int.le_refl _⟩
  | x :: y :: r, _ => by
    obtain ⟨h1, h2⟩ := lmin_spec (ns := y :: r) (Nat.succ_pos _)
    unfold lmin
    refine ⟨?_, fun z hz => ?_⟩
    · rcases Int.le_total x (lmin (y :: r)) with q | q
      · rw [Int.min_eq_left q]; exact List.mem_cons_self
      · rw [Int.min_eq_right q]; exact List.mem_cons_of_mem _ h1
    · rcases List.mem_cons.mp hz with e | e
      · rw [e]; exact Int.min_le_left _ _
      · exact Int.le_trans (Int.min_le_right _ _) (h2 z e)
theorem lmax_uniq {ns : List Int} {m : Int} (h : m ∈ ns) (h2 : ∀ y ∈ ns, y ≤ m) : m = lmax ns := by
  obtain ⟨h3, h4⟩ := lmax_spec (ns := ns) (List.length_pos_of_mem h)
  exact Int.le_antisymm (h4 m h) (h2 _ h3)
theorem lmin_uniq {ns : List Int} {m : Int} (h : m ∈ ns) (h2 : ∀ y ∈ ns, m ≤ y) : m = lmin ns := by
  obtain ⟨h3, h4⟩ := lmin_spec (ns := ns) (List.length_pos_of_mem h)
  exact Int.le_antisymm (h2 _ h3) (h4 m h)
theorem pd_maxL {ns : List Int} (l : LV M1 da (ns.map D.int)) (h0 : 0 < ns.length) (hm : X.mg "max" = none) (ha : PD X T ρ M a da M1) (hc : X.calm = true := by rfl) (hg : Gl X "max" := by rfl) (he : starEach [a] X.env = (false, eval a X.env) :: starEach [] X.env := by rfl) :
    PD X T ρ M (.Call (.Name "max" p) [a] [] pos) (.int (lmax ns)) M1 :=
  pd_callB (cr_max hc) (fun G H vs Q hs r k => by
    obtain ⟨v, rfl, rr⟩ := r.one
    obtain ⟨p, xs, rfl, e, r⟩ := l.get hs rr
    refine ⟨p, ns, rfl, SqL.of (r.ints ▸ e), h0, fun m h1 h2 => ?_⟩
    rw [lmax_uniq h1 h2]
    exact k _ G H (Step.refl _ _ _) hs (.int _)) hm (by decide +kernel) (pdl_1 ha he) hg (by decide) (by decide) he
theorem pd_minL {ns : List Int} (l : LV M1 da (ns.map D.int)) (h0 : 0 < ns.length) (hm : X.mg "min" = none) (ha : PD X T ρ M a da M1) (hc : X.calm = true := by rfl) (hg : Gl X "min" := by rfl) (he : starEach [a] X.env = (false, eval a X.env) :: starEach [] X.env := by rfl) :
    PD X T ρ M (.Call (.Name "min" p) [a] [] pos) (.int (lmin ns)) M1 :=
  pd_callB (cr_min hc) (fun G H vs Q hs r k => by
    obtain ⟨v, rfl, rr⟩ := r.one
    obtain ⟨p, xs, rfl, e, r⟩ := l.get hs rr
    refine ⟨p, ns, rfl, SqL.of (r.ints ▸ e), h0, fun m h1 h2 => ?_⟩
    rw [lmin_uniq h1 h2]
    exact k _ G H (Step.refl _ _ _) hs (.int _)) hm (by decide +kernel) (pdl_1 ha he) hg (by decide) (by decide) he
/-! list + list, list * int, tuple + tuple -/
theorem pd_catL {es' : List D} (l1 : LV M2 da ds) (l2 : LV M2 db es') (hz : ds.length + es'.length ≤ sizeLine) (ha : PD X T ρ M a da M1) (hb : PD X T ρ M1 b db M2) : PD X T ρ M (.BinOp a .Add b pos) (.lst (ds ++ es')) M2 :=
  pd_op op_cat (fun G H v u Q hs r1 r2 k => by
    obtain ⟨p, xs, rfl, e, r⟩ := l1.get hs r1
    obtain ⟨q, ys, rfl, e', r'⟩ := l2.get hs r2
    exact ⟨p, q, xs, ys, rfl, rfl, e, e', by rw [r.length, r'.length]; exact hz, fun t ht => k _ _ _ (Step.newI hs ht) (hs.new ht fun _ z => by cases z) (.lst upd_same ((r.app r').up (up_upd (hs.freshG ht))))⟩) ha hb
theorem DtL.rep {w : World} {G : Hp} {vs : List V} {ds : List D} (r : DtL w G vs ds) : ∀ n : Nat, DtL w G (List.replicate n vs).flatten (List.replicate n ds).flatten
  | 0 => .nil
  | n + 1 => by
    rw [List.replicate_succ, List.replicate_succ, List.flatten_cons, List.flatten_cons]
    exact r.app (DtL.rep r n)
theorem pd_repL {k : Int} (l : LV M2 da ds) (h1 : -(2 ^ 63) ≤ k) (h2 : k < 2 ^ 63) (hz : ds.length * k.toNat ≤ sizeLine) (ha : PD X T ρ M a da M1) (hb : PD X T ρ M1 b (.int k) M2) : PD X T ρ M (.BinOp a .Mult b pos) (.lst (List.replicate k.toNat ds).flatten) M2 :=
  pd_op op_rep (fun G H v u Q hs r1 r2 kk => by
    obtain ⟨p, xs, rfl, e, r⟩ := l.get hs r1
    cases r2
    exact ⟨p, k, xs, rfl, rfl, e, h1, h2, by rw [r.length]; exact hz, fun t ht => kk _ _ _ (Step.newI hs ht) (hs.new ht fun _ z => by cases z) (.lst upd_same ((r.rep _).up (up_upd (hs.freshG ht))))⟩) ha hb
theorem pd_repT {k : Int} (h0 : ds ≠ []) (h1 : 2 ≤ k) (h2 : k ≤ 1000) (hz : ds.length ≤ 1000) (ha : PD X T ρ M a (.tup ds) M1) (hb : PD X T ρ M1 b (.int k) M2) : PD X T ρ M (.BinOp a .Mult b pos) (.tup (List.replicate k.toNat ds).flatten) M2 :=
  pd_op op_repT (fun G H v u Q hs r1 r2 kk => by
    obtain ⟨p, xs, rfl, e, r⟩ := r1.tupH hs
    cases r2
    exact ⟨p, k, xs, rfl, rfl, SqT.of e, (fun q => h0 (List.eq_nil_of_length_eq_zero (by rw [← r.length, q]; rfl))), h1, h2, by rw [r.length]; exact hz, fun t ht => kk _ _ _ (Step.newI hs ht) (hs.new ht fun _ z => by cases z) (.tup upd_same ((r.rep _).up (up_upd (hs.freshG ht))))⟩) ha hb
theorem pd_catT {es' : List D} (hz : ds.length + es'.length ≤ sizeLine) (ha : PD X T ρ M a (.tup ds) M1) (hb : PD X T ρ M1 b (.tup es') M2) : PD X T ρ M (.BinOp a .Add b pos) (.tup (ds ++ es')) M2 :=
  pd_op op_catA (fun G H v u Q hs r1 r2 k => by
    obtain ⟨p, xs, rfl, e, r⟩ := r1.tupH hs
    obtain ⟨q, ys, rfl, e', r'⟩ := r2.tupH hs
    refine ⟨p, q, xs, ys, rfl, rfl, SqT.of e, SqT.of e', by rw [r.length, r'.length]; exact hz, fun z => ?_, fun _ z => ?_, fun _ _ t ht => k _ _ _ (Step.newI hs ht) (hs.new ht fun _ z => by cases z) (.tup upd_same ((r.app r').up (up_upd (hs.freshG ht))))⟩
    · subst z
      cases r
      exact k _ G H (Step.refl _ _ _) hs r2
    · subst z
      cases r'
      rw [List.append_nil] at k
      exact k _ G H (Step.refl _ _ _) hs r1) ha hb
/-! attributes -/
theorem pd_fld {C : Addr} {f : Str} {fs : List (Str × D)} (o : OV M1 da C fs) (hc : Cls X.K C) (hn : NoAttr X.K C f) (ha : PD X T ρ M a da M1) (hl : fs.lookup f = some d := by rfl)
    (hb : attributeBase a f X.env (eval a X.env) = eval a X.env := by rfl) : PD X T ρ M (.Attribute a f pos) d M1 :=
  (pe_fld ha hb).imp fun σ H Q ⟨G, hs, sl, k⟩ => ⟨G, hs, sl, fun v G1 H1 st1 hs1 r1 => by
    obtain ⟨p, dx, ws, rfl, e, r⟩ := o.get hs1 r1
    obtain ⟨u, hu, ru⟩ := r.get hl
    exact ⟨p, C, dx, ws, u, rfl, e, hc, hn, hu, k u G1 H1 st1 hs1 ru⟩⟩
end
end LW

set_option Elab.async false
set_option linter.all false
set_option maxRecDepth 100000
set_option maxHeartbeats 2000000
/-! LD: the frame, statements, defs and their calls. -/
namespace LW
open PySem PySem.Spec PyProof.Rows L2
section
variable {w : World} {T : List Addr} {G H G' H' : Hp} {M M' R m : Mem}
theorem adr_app : adr (M ++ R) = adr M ++ adr R := List.filterMap_append ..
theorem adr_perm (h : M.Perm M') : (adr M).Perm (adr M') := h.filterMap _
theorem HS.perm (s : HS w T G H M) (h : M.Perm M') : HS w T G H M' :=
  ⟨s.sub, s.pur, (adr_perm h).nodup_iff.mp s.nd, fun p ob q => s.mem p ob (h.mem_iff.mpr q), s.tab⟩
theorem Step.permL {N : Mem} (s : Step G H M G' H' N) (h : M.Perm M') : Step G H M' G' H' N := by
  have e : ∀ a, a ∈ adr M ↔ a ∈ adr M' := fun a => (adr_perm h).mem_iff
  exact ⟨s.up, fun a o q => by rcases s.new a o q with z | z | z; exact .inl z; exact .inr (.inl z); exact .inr (.inr ((e a).mp z)), fun a o q n => s.keep a o q fun z => n ((e a).mp z), fun a q => by rcases s.adr_ a q with z | z; exact .inl ((e a).mp z); exact .inr z⟩
theorem Step.permR {N : Mem} (s : Step G H N G' H' M) (h : M.Perm M') : Step G H N G' H' M' := by
  have e : ∀ a, a ∈ adr M ↔ a ∈ adr M' := fun a => (adr_perm h).mem_iff
  exact ⟨s.up, s.new, s.keep, fun a q => s.adr_ a ((e a).mpr q)⟩
/-- a part of what is owned -/
theorem HS.left (s : HS w T G H (M ++ R)) : HS w T G H M :=
  ⟨s.sub, s.pur, by have q := s.nd; rw [adr_app] at q; exact (List.nodup_append.mp q).1, fun p ob h => s.mem p ob (List.mem_append_left _ h), s.tab⟩
/-- THE FRAME -/
theorem frame_ok (s : HS w T G H (M ++ R)) (t : Step G H M G' H' m) (s' : HS w T G' H' m) : Step G H (M ++ R) G' H' (m ++ R) ∧ HS w T G' H' (m ++ R) := by
  have nd := s.nd
  rw [adr_app, List.nodup_append] at nd
  obtain ⟨n1, n2, n3⟩ := nd
  have notM : ∀ p, p ∈ adr R → p ∉ adr M := fun p h q => n3 p q p h rfl
  have hR : ∀ p ob, some (p, ob) ∈ R → G' p = none ∧ ObOk w G' H' p ob ∧ H' p = H p := fun p ob h => by
    obtain ⟨g0, ok⟩ := s.mem p ob (List.mem_append_right _ h)
    obtain ⟨o, e, _, nt, _⟩ := ok.there
    have np := notM p (adr_mem h)
    have e' : H' p = some o := by
      rcases t.keep p o e np with q | ⟨ps, more, q, _⟩
      · exact q
      · exact absurd q (nt ps)
    refine ⟨?_, ok.mono t.up (by rw [e', e]), by rw [e', e]⟩
    cases q : G' p with
    | none => rfl
    | some u =>
      rcases t.new p u q with z | z | z
      · rw [g0] at z; cases z
      · rw [e] at z; cases z
      · exact absurd z np
  refine ⟨⟨t.up, fun a o q => ?_, fun a o q n => t.keep a o q fun z => n (by rw [adr_app]; exact List.mem_append_left _ z), fun a q => ?_⟩, ⟨s'.sub, s'.pur, ?_, fun p ob h => ?_, s'.tab⟩⟩
  · rcases t.new a o q with z | z | z
    · exact .inl z
    · exact .inr (.inl z)
    · exact .inr (.inr (by rw [adr_app]; exact List.mem_append_left _ z))
  · rw [adr_app] at q ⊢
    rcases List.mem_append.mp q with z | z
    · rcases t.adr_ a z with z | z
      · exact .inl (List.mem_append_left _ z)
      · exact .inr z
    · exact .inl (List.mem_append_right _ z)
  · rw [adr_app, List.nodup_append]
    refine ⟨s'.nd, n2, fun a h b k e => ?_⟩
    subst e
    rcases t.adr_ a h with z | z
    · exact notM a k z
    · obtain ⟨ob, q⟩ := mem_adr k
      obtain ⟨o, e, _⟩ := (s.mem a ob (List.mem_append_right _ q)).2.there
      rw [z] at e
      cases e
  · rcases List.mem_append.mp h with z | z
    · exact s'.mem p ob z
    · exact ⟨(hR p ob z).1, (hR p ob z).2.1⟩
/-- one of ours, at place j -/
theorem erase_perm {α : Type} : ∀ {l : List α} {j : Nat} {c : α}, l[j]? = some c → (c :: l.eraseIdx j).Perm l
  | [], _, _, h => by simp at h
  | x :: l, 0, c, h => by simp at h; subst h; exact List.Perm.refl _
  | x :: l, j + 1, c, h => by
    have q := erase_perm (l := l) (j := j) (c := c) (by simpa using h)
    rw [List.eraseIdx_cons_succ]
    exact (List.Perm.swap x c _).trans (q.cons x)
theorem sett_perm {α : Type} : ∀ {l : List α} {j : Nat} {c : α} (c' : α), l[j]? = some c → (c' :: l.eraseIdx j).Perm (l.set j c')
  | [], _, _, _, h => by simp at h
  | x :: l, 0, c, c', h => List.Perm.refl _
  | x :: l, j + 1, c, c', h => by
    have q := sett_perm (l := l) (j := j) (c := c) c' (by simpa using h)
    rw [List.eraseIdx_cons_succ, List.set_cons_succ]
    exact (List.Perm.swap x c' _).trans (q.cons x)
theorem at_perm {j : Nat} {c : Option (Addr × Ob)} (h : M[j]? = some c) : M.Perm ([c] ++ M.eraseIdx j) := by
  exact (erase_perm h).symm
theorem set_perm {j : Nat} {c : Option (Addr × Ob)} (h : M[j]? = some c) (c' : Option (Addr × Ob)) : ([c'] ++ M.eraseIdx j).Perm (M.set j c') := by
  exact sett_perm c' h
/-- our object at place j is written -/
theorem HS.put {j : Nat} {p : Addr} {ob ob' : Ob} {o : HO} (s : HS w T G H M) (h : M[j]? = some (some (p, ob))) (ho : ∀ ps, o ≠ .tbl ps) (ok : ∀ H' : Hp, H' p = some o → ObOk w G H' p ob') :
    HS w T G (upd H p o) (M.set j (some (p, ob'))) ∧ Step G H M G (upd H p o) (M.set j (some (p, ob'))) := by
  have s1 := s.perm (at_perm h)
  have e0 := s1.mem p ob (List.mem_append_left _ List.mem_cons_self)
  obtain ⟨u, hu, _, nt, ntup⟩ := e0.2.there
  have a1 : HS w T G (upd H p o) [some (p, ob')] := by
    refine ⟨fun a x e => ?_, s.pur, (by simp [adr]), fun q ob2 hq => ?_, fun P hP => TabG.upd (s.tab P hP) fun ps q => nt ps (by rw [hu] at q; exact Option.some.inj q)⟩
    · rw [upd_ne fun z => by rw [z, e0.1] at e; cases e]
      exact s.sub a x e
    · cases List.mem_singleton.mp hq
      exact ⟨e0.1, ok _ upd_same⟩
  have t1 : Step G H [some (p, ob)] G (upd H p o) [some (p, ob')] := by
    refine ⟨fun _ _ e => e, fun _ _ e => .inl e, fun a x e n => ?_, fun a h => .inl h⟩
    rw [upd_ne fun z => n (by rw [z]; exact List.mem_singleton.mpr rfl)]
    exact .inl e
  obtain ⟨t2, a2⟩ := frame_ok s1 t1 a1
  exact ⟨a2.perm (set_perm h _), (t2.permL (at_perm h).symm).permR (set_perm h _)⟩
/-- a new object that is ours -/
theorem HS.own {p : Addr} {ob : Ob} {o : HO} (s : HS w T G H M) (hp : H p = none) (ho : ∀ ps, o ≠ .tbl ps) (ok : ∀ H' : Hp, H' p = some o → ObOk w G H' p ob) :
    HS w T G (upd H p o) (M ++ [some (p, ob)]) ∧ Step G H M G (upd H p o) (M ++ [some (p, ob)]) := by
  have gp := s.freshG hp
  have e : adr (M ++ [some (p, ob)]) = adr M ++ [p] := by rw [adr_app]; rfl
  refine ⟨⟨fun a x q => ?_, s.pur, ?_, fun q ob2 hq => ?_, fun P hP => TabG.upd (s.tab P hP) fun ps q => by rw [hp] at q; cases q⟩, ⟨fun _ _ q => q, fun _ _ q => .inl q, fun a x q n => ?_, fun a h => ?_⟩⟩
  · rw [upd_ne fun z => by rw [z, gp] at q; cases q]
    exact s.sub a x q
  · rw [e, List.nodup_append]
    refine ⟨s.nd, (by simp [adr]), fun a h b k z => ?_⟩
    rw [List.mem_singleton] at k
    subst k
    subst z
    exact s.fresh hp h
  · rcases List.mem_append.mp hq with z | z
    · obtain ⟨h1, h2⟩ := s.mem q ob2 z
      exact ⟨h1, h2.mono (fun _ _ e => e) (upd_ne fun y => s.fresh hp (y ▸ adr_mem z))⟩
    · cases List.mem_singleton.mp z
      exact ⟨gp, ok _ upd_same⟩
  · rw [upd_ne (ne_of_none q hp)]
    exact .inl q
  · rw [e] at h
    rcases List.mem_append.mp h with z | z
    · exact .inl z
    · rw [List.mem_singleton] at z
      subst z
      exact .inr hp
/-- ours no more: the object is a datum from now on -/
theorem HS.freeze {j : Nat} {p : Addr} {ob : Ob} {o : HO} (s : HS w T G H M) (h : M[j]? = some (some (p, ob))) (ho : H p = some o) (nt : ∀ ps, o ≠ .tbl ps) :
    HS w T (upd G p o) H (M.set j none) ∧ Step G H M (upd G p o) H (M.set j none) := by
  have s1 := s.perm (at_perm h)
  have g0 := (s1.mem p ob (List.mem_append_left _ List.mem_cons_self)).1
  have pm : ∀ x, x ∈ ([none] ++ M.eraseIdx j : Mem) → x = none ∨ x ∈ M.eraseIdx j := fun x h => by
    rcases List.mem_append.mp h with z | z
    · exact .inl (List.mem_singleton.mp z)
    · exact .inr z
  have nd := s1.nd
  have e1 : adr ([some (p, ob)] ++ M.eraseIdx j) = p :: adr (M.eraseIdx j) := rfl
  have e2 : adr ([none] ++ M.eraseIdx j) = adr (M.eraseIdx j) := rfl
  rw [e1, List.nodup_cons] at nd
  have a2 : HS w T (upd G p o) H ([none] ++ M.eraseIdx j) := by
    refine ⟨fun a x e => ?_, fun a ps e => ?_, by rw [e2]; exact nd.2, fun q ob2 hq => ?_, s.tab⟩
    · by_cases z : a = p
      · subst z
        rw [upd_same] at e
        rw [ho, e]
      · rw [upd_ne z] at e
        exact s.sub a x e
    · by_cases z : a = p
      · subst z
        rw [upd_same] at e
        exact nt ps (Option.some.inj e)
      · rw [upd_ne z] at e
        exact s.pur a ps e
    · rcases pm _ hq with z | z
      · cases z
      · obtain ⟨h1, h2⟩ := s1.mem q ob2 (List.mem_append_right _ z)
        have nq : q ≠ p := fun y => nd.1 (y ▸ adr_mem z)
        exact ⟨by rw [upd_ne nq]; exact h1, h2.mono (up_upd g0) rfl⟩
  have t2 : Step G H ([some (p, ob)] ++ M.eraseIdx j) (upd G p o) H ([none] ++ M.eraseIdx j) := by
    refine ⟨up_upd g0, fun a x e => ?_, fun a x e _ => .inl e, fun a h => .inl ?_⟩
    · by_cases z : a = p
      · subst z
        exact .inr (.inr (by rw [e1]; exact List.mem_cons_self))
      · rw [upd_ne z] at e
        exact .inl e
    · rw [e2] at h
      rw [e1]
      exact List.mem_cons_of_mem _ h
  exact ⟨a2.perm (set_perm h _), (t2.permL (at_perm h).symm).permR (set_perm h _)⟩
end

/-! ### relational results -/
def tER (w : World) (T : List Addr) (ρ : List (Option D)) (M : Mem) (R : D → Mem → Prop) : TE := fun σ H Q => ∃ G, HS w T G H M ∧ SL w G σ ρ ∧
  ∀ v G' H' d M', R d M' → Step G H M G' H' M' → HS w T G' H' M' → Dt w G' v d → Q v H'
abbrev PDR (X : Cx) (T : List Addr) (ρ : List (Option D)) (M : Mem) (e : Expr) (R : D → Mem → Prop) : Prop := PE X e (tER X.w T ρ M R)
section
variable {X : Cx} {T : List Addr} {ρ : List (Option D)} {M M1 M2 M3 : Mem} {d da db dc : D} {a b c e : Expr} {es : List Expr} {pos : Pos} {ds : List D} {R R' : D → Mem → Prop}
theorem pdr_of (h : PD X T ρ M e d M1) : PDR X T ρ M e (fun d' m => d' = d ∧ m = M1) :=
  PE.imp h fun σ H Q ⟨G, hs, sl, k⟩ => ⟨G, hs, sl, fun v G' H' st hs' r => k v G' H' d M1 ⟨rfl, rfl⟩ st hs' r⟩
theorem pd_ofR (h : PDR X T ρ M e R) (u : ∀ d' m, R d' m → d' = d ∧ m = M1) : PD X T ρ M e d M1 :=
  PE.imp h fun σ H Q ⟨G, hs, sl, k⟩ => ⟨G, hs, sl, fun v G' H' d' m r st hs' rd => by obtain ⟨e1, e2⟩ := u d' m r; subst e1; subst e2; exact k v G' H' st hs' rd⟩
theorem pdr_imp (h : PDR X T ρ M e R) (u : ∀ d' m, R d' m → R' d' m) : PDR X T ρ M e R' :=
  PE.imp h fun σ H Q ⟨G, hs, sl, k⟩ => ⟨G, hs, sl, fun v G' H' d' m r st hs' rd => k v G' H' d' m (u d' m r) st hs' rd⟩
end

/-! ### statements -/
def tB (w : World) (T : List Addr) (ρ : List (Option D)) (M : Mem) (Nx : List (Option D) → Mem → Prop) (Rt : D → Mem → Prop) : TS := fun Dd σ H => ∃ G, HS w T G H M ∧ SL w G σ ρ ∧
  (∀ σ' G' H' ρ' M', Nx ρ' M' → Step G H M G' H' M' → HS w T G' H' M' → SL w G' σ' ρ' → Dd.nx σ' H') ∧
  (∀ v G' H' d M', Rt d M' → Step G H M G' H' M' → HS w T G' H' M' → Dt w G' v d → Dd.rt v H')
abbrev PB (X : Cx) (T : List Addr) (ρ : List (Option D)) (M : Mem) (sts : List Stmt) (Nx : List (Option D) → Mem → Prop) (Rt : D → Mem → Prop) : Prop := PSs X sts (tB X.w T ρ M Nx Rt)
abbrev PB1 (X : Cx) (T : List Addr) (ρ : List (Option D)) (M : Mem) (st : Stmt) (Nx : List (Option D) → Mem → Prop) (Rt : D → Mem → Prop) : Prop := PS X st (tB X.w T ρ M Nx Rt)
section
variable {X : Cx} {T : List Addr} {ρ : List (Option D)} {M M1 M2 M3 : Mem} {d da db dc : D} {a b c e : Expr} {es : List Expr} {pos : Pos} {ds : List D} {R R' : D → Mem → Prop}
  {st : Stmt} {rest A B : List Stmt} {Nx Nx1 : List (Option D) → Mem → Prop} {Rt : D → Mem → Prop}
theorem pb_nil (h : Nx ρ M) : PB X T ρ M [] Nx Rt :=
  PSs.imp pss_nil fun D σ H ⟨G, hs, sl, k, _⟩ => k σ G H ρ M h (Step.refl _ _ _) hs sl
theorem pb_one (h : PB1 X T ρ M st Nx Rt) : PB X T ρ M [st] Nx Rt := pss_one h
theorem pb_seq (h : PB1 X T ρ M st Nx1 Rt) (k : ∀ ρ' M', Nx1 ρ' M' → PB X T ρ' M' rest Nx Rt) : PB X T ρ M (st :: rest) Nx Rt :=
  PSs.imp (pss_cons h (PSs.ex fun (x : List (Option D) × Mem) => PSs.exB (P := Nx1 x.1 x.2) (k x.1 x.2))) fun D σ H ⟨G, hs, sl, k1, k2⟩ => ⟨G, hs, sl, fun σ' G' H' ρ' M' n st hs' sl' => ⟨(ρ', M'), n, G', hs', sl',
    fun σ2 G2 H2 ρ2 M2 n2 st2 hs2 sl2 => k1 σ2 G2 H2 ρ2 M2 n2 (st.trans st2) hs2 sl2, fun v G2 H2 d M2 r st2 hs2 rd => k2 v G2 H2 d M2 r (st.trans st2) hs2 rd⟩, k2⟩
/-- x = e -/
theorem pb1_setR (i : Nat) {x : Str} {p : Pos} (he : PDR X T ρ M e R) (k : ∀ d m, R d m → Nx (ρ.set i (some d)) m) (hN : X.N.Nodup) (hi : X.N[i]? = some x := by rfl) (hx : Loc X.env.scope x := by first | exact Or.inl rfl | exact Or.inr rfl)
    (hs : swapsWith e (some (.Name x p)) pos.line X.env = pure false := by rfl) (hf : X.fn x = true ∨ X.env.scope.names.lookup x = some .local := by first | exact .inl rfl | exact .inr rfl | assumption) : PB1 X T ρ M (.Assign [.Name x p] e pos) Nx Rt :=
  PS.imp (ps_set hN hi hx he hs hf) fun D σ H ⟨G, hs, sl, k1, k2⟩ => ⟨G, hs, sl, fun v G' H' d m r st hs' rd => k1 _ G' H' _ m (k d m r) st hs' ((sl.up st.up).set i rd)⟩
theorem pb_setR (i : Nat) {x : Str} {p : Pos} (he : PDR X T ρ M e R) (hN : X.N.Nodup) (k : ∀ d m, R d m → PB X T (ρ.set i (some d)) m rest Nx Rt) (hi : X.N[i]? = some x := by rfl) (hx : Loc X.env.scope x := by first | exact Or.inl rfl | exact Or.inr rfl)
    (hs : swapsWith e (some (.Name x p)) pos.line X.env = pure false := by rfl) (hf : X.fn x = true ∨ X.env.scope.names.lookup x = some .local := by first | exact .inl rfl | exact .inr rfl | assumption) : PB X T ρ M (.Assign [.Name x p] e pos :: rest) Nx Rt :=
  pb_seq (Nx1 := fun ρ' M' => ∃ d, R d M' ∧ ρ' = ρ.set i (some d)) (pb1_setR i he (fun d m r => ⟨d, r, rfl⟩) hN hi hx hs hf) fun ρ' M' ⟨d, r, e⟩ => e ▸ k d M' r
theorem pb_set (i : Nat) {x : Str} {p : Pos} (he : PD X T ρ M e d M1) (hN : X.N.Nodup) (k : PB X T (ρ.set i (some d)) M1 rest Nx Rt) (hi : X.N[i]? = some x := by rfl) (hx : Loc X.env.scope x := by first | exact Or.inl rfl | exact Or.inr rfl)
    (hs : swapsWith e (some (.Name x p)) pos.line X.env = pure false := by rfl) (hf : X.fn x = true ∨ X.env.scope.names.lookup x = some .local := by first | exact .inl rfl | exact .inr rfl | assumption) : PB X T ρ M (.Assign [.Name x p] e pos :: rest) Nx Rt :=
  pb_setR i (pdr_of he) hN (fun d' m ⟨e1, e2⟩ => by subst e1; subst e2; exact k) hi hx hs hf
/-- e -/
theorem pb1_expr (he : PDR X T ρ M e R) (k : ∀ d m, R d m → Nx ρ m) (hs : swapsWith e none pos.line X.env = pure false := by rfl) : PB1 X T ρ M (.Expr e pos) Nx Rt :=
  PS.imp (ps_expr he hs) fun D σ H ⟨G, hs, sl, k1, k2⟩ => ⟨G, hs, sl, fun v G' H' d m r st hs' rd => k1 _ G' H' _ m (k d m r) st hs' (sl.up st.up)⟩
theorem pb_expr (he : PD X T ρ M e d M1) (k : PB X T ρ M1 rest Nx Rt) (hs : swapsWith e none pos.line X.env = pure false := by rfl) : PB X T ρ M (.Expr e pos :: rest) Nx Rt :=
  pb_seq (Nx1 := fun ρ' m => ρ' = ρ ∧ m = M1) (pb1_expr (pdr_of he) (fun d' m ⟨_, e⟩ => ⟨rfl, e⟩) hs) fun ρ' m ⟨e1, e2⟩ => by subst e1; subst e2; exact k
/-- return e -/
theorem pb1_retR (he : PDR X T ρ M e R) (k : ∀ d m, R d m → Rt d m) : PB1 X T ρ M (.Return (some e) pos) Nx Rt :=
  PS.imp (ps_ret he) fun D σ H ⟨G, hs, sl, k1, k2⟩ => ⟨G, hs, sl, fun v G' H' d m r st hs' rd => k2 v G' H' d m (k d m r) st hs' rd⟩
theorem pb_ret (he : PD X T ρ M e d M1) (k : Rt d M1) : PB X T ρ M (.Return (some e) pos :: rest) Nx Rt :=
  PSs.imp (pss_cons (ps_ret he) (pss_never (sts := rest))) fun D σ H ⟨G, hs, sl, k1, k2⟩ => ⟨G, hs, sl, fun v G' H' st hs' rd => k2 v G' H' d M1 k st hs' rd⟩
theorem pb_retR (he : PDR X T ρ M e R) (k : ∀ d m, R d m → Rt d m) : PB X T ρ M (.Return (some e) pos :: rest) Nx Rt :=
  PSs.imp (pss_cons (ps_ret he) (pss_never (sts := rest))) fun D σ H ⟨G, hs, sl, k1, k2⟩ => ⟨G, hs, sl, fun v G' H' d m r st hs' rd => k2 v G' H' d m (k d m r) st hs' rd⟩
theorem pb_retN (k : Rt .non M) : PB X T ρ M (.Return none pos :: rest) Nx Rt :=
  PSs.imp (pss_cons ps_retN (pss_never (sts := rest))) fun D σ H ⟨G, hs, sl, k1, k2⟩ => k2 .non G H .non M k (Step.refl _ _ _) hs .non
theorem pb_pass (k : PB X T ρ M rest Nx Rt) : PB X T ρ M (.Pass pos :: rest) Nx Rt :=
  PSs.imp (pss_cons ps_pass k) fun D σ H h => h
theorem pb_doc {x : Str} {j : Nat} {p : Pos} (k : PB X T ρ M rest Nx Rt) : PB X T ρ M (.Expr (.Constant (.str x) j p) pos :: rest) Nx Rt :=
  PSs.imp (pss_cons ps_doc k) fun D σ H h => h
/-- if -/
theorem pb1_if {k : Bool} (hc : PDT X T ρ M c k M1) (h1 : k = true → PB X T ρ M1 A Nx Rt) (h2 : k = false → PB X T ρ M1 B Nx Rt) : PB1 X T ρ M (.If c A B pos) Nx Rt :=
  PS.imp (ps_if hc (PSs.exB (P := k = true) h1) (PSs.exB (P := k = false) h2)) fun D σ H ⟨G, hs, sl, k1, k2⟩ => ⟨G, hs, sl, fun G1 H1 st hs1 => by
    cases k with
    | true => exact ⟨rfl, G1, hs1, sl.up st.up, fun σ2 G2 H2 ρ2 M2 n2 st2 hs2 sl2 => k1 σ2 G2 H2 ρ2 M2 n2 (st.trans st2) hs2 sl2, fun v G2 H2 d M2 r st2 hs2 rd => k2 v G2 H2 d M2 r (st.trans st2) hs2 rd⟩
    | false => exact ⟨rfl, G1, hs1, sl.up st.up, fun σ2 G2 H2 ρ2 M2 n2 st2 hs2 sl2 => k1 σ2 G2 H2 ρ2 M2 n2 (st.trans st2) hs2 sl2, fun v G2 H2 d M2 r st2 hs2 rd => k2 v G2 H2 d M2 r (st.trans st2) hs2 rd⟩⟩
theorem pb_if {k : Bool} (hc : PDT X T ρ M c k M1) (h1 : k = true → PB X T ρ M1 A Nx1 Rt) (h2 : k = false → PB X T ρ M1 B Nx1 Rt) (h : ∀ ρ' M', Nx1 ρ' M' → PB X T ρ' M' rest Nx Rt) : PB X T ρ M (.If c A B pos :: rest) Nx Rt :=
  pb_seq (pb1_if hc h1 h2) h
/-- if c: .. that ends with a return (or a raise that is never come to), then the rest -/
theorem pb_ifret {k : Bool} (hc : PDT X T ρ M c k M1) (h1 : k = true → PB X T ρ M1 A (fun _ _ => False) Rt) (h2 : k = false → PB X T ρ M1 rest Nx Rt) : PB X T ρ M (.If c A [] pos :: rest) Nx Rt :=
  pb_seq (Nx1 := fun ρ' m => k = false ∧ ρ' = ρ ∧ m = M1) (pb1_if hc (fun q => PSs.imp (h1 q) fun D σ H ⟨G, hs, sl, k1, k2⟩ => ⟨G, hs, sl, fun _ _ _ _ _ f => f.elim, k2⟩) fun q => pb_nil ⟨q, rfl, rfl⟩) fun ρ' m ⟨q, e1, e2⟩ => by subst e1; subst e2; exact h2 q
/-- the test is no: nothing is done -/
theorem pb_ifno (hc : PDT X T ρ M c false M1) (h2 : PB X T ρ M1 rest Nx Rt) : PB X T ρ M (.If c A [] pos :: rest) Nx Rt :=
  pb_seq (Nx1 := fun ρ' m => ρ' = ρ ∧ m = M1) (pb1_if hc (fun q => by cases q) fun q => pb_nil ⟨rfl, rfl⟩) fun ρ' m ⟨e1, e2⟩ => by subst e1; subst e2; exact h2
theorem pb_never (h : False) : PB X T ρ M A Nx Rt := h.elim
end

/-! ### defs -/
/-- a def's promise: x stands for the arguments' data and what is owned ahead of it -/
def spC (w : World) (T : List Addr) {α : Type} (args : α → List D) (Mf : α → Mem) (post : α → D → Mem → Prop) : Sp := fun vs H Q _ => ∃ (x : α) (G : Hp), HS w T G H (Mf x) ∧ DtL w G vs (args x) ∧
  ∀ v G' H' d M', post x d M' → Step G H (Mf x) G' H' M' → HS w T G' H' M' → Dt w G' v d → Q v H'
/-- a def of the text with its code object -/
structure FunC (K : PySem.W.Frag) (x qual : Str) (st : Stmt) (f : Addr) (fd : FuncData) (cdv : Value) : Prop where
  ex : ∃ (oc : Value) (od : Option Addr) (dV kV doc pm : Value) (an : Option Addr) (ct : Value) (osl : Array (Option Value)),
    fd = PySem.W.fnOf x qual (defArgs st) (defBody st) (defScope st) dV kV doc pm an cdv ct ∧ K.lookup f = some ⟨oc, od, .func fd, osl⟩ ∧ PySem.W.codeIn K cdv qual = true
  kp : PySem.W.keepIn K (.ref f) = true
def slots (N : List Str) (ds : List D) : List (Option D) := ds.map some ++ List.replicate (N.length - ds.length) none
theorem SL.start {w : World} {G : Hp} {N : List Str} {vs : List V} {ds : List D} (r : DtL w G vs ds) : SL w G (L2.start N vs) (slots N ds) := by
  unfold L2.start slots
  refine ⟨by simp [r.length], fun i d h => ?_⟩
  by_cases hi : i < ds.length
  · rw [List.getElem?_append_left (by simpa using hi), List.getElem?_map] at h
    cases e : ds[i]? with
    | none => rw [e] at h; cases h
    | some d' =>
      rw [e] at h
      cases h
      obtain ⟨v, h1, h2⟩ := r.get e
      refine ⟨v, ?_, h2⟩
      rw [List.getElem?_append_left (by rw [List.length_map, r.length]; exact hi), List.getElem?_map, h1]
      rfl
  · rw [List.getElem?_append_right (by simpa using hi), List.getElem?_replicate] at h
    split at h <;> cases h
section
variable {P : Program} {w : World} {K : PySem.W.Frag} {mg : Str → Option Value} {base : Heap} {T : List Addr} {α : Type} {args : α → List D} {Mf : α → Mem} {post : α → D → Mem → Prop}
theorem fn_ok {nm qual : Str} {st : Stmt} {f : Addr} {fd : FuncData} {cdv : Value} {N ps : List Str} {k : Nat} (F : FunC K nm qual st f fd cdv) (S : FnScope N ps (defScope st)) (ρ : α → List (Option D))
    (hb : ∀ (x : α) (A : Around) (outer : List Env) (s : Shared) (H : Hp) (E : XK), Room k (A.deeper (envOfC qual (defScope st) s.heap.objs.size f cdv)) →
      PB (cxOf CX0 P w K mg base N qual (defScope st) f cdv A outer s H E).nox T (ρ x) (Mf x) (defBody st) (fun _ m => post x .non m) (post x))
    (hl : ∀ x, (args x).length = ps.length := by intros; rfl) (hρ : ∀ x, slots N (args x) = ρ x := by intros; rfl) : FnOk P w K mg base CX0 (k + 1) f fd ps (spC w T args Mf post) := by
  obtain ⟨oc, od, dV, kV, doc, pm, an, ct, osl, rfl, lk, hcd⟩ := F.ex
  refine fn_of lk hcd S (fun vs H Q E h => ?_) fun A outer s H vs Q E hr hsp => ?_
  · obtain ⟨x, G, _, r, _⟩ := h
    rw [r.length, hl]
  · obtain ⟨x, G, hs, r, k⟩ := hsp
    refine ⟨_, (hb x A outer s H E hr).nox, G, hs, ?_, fun σ' G' H' ρ' M' n st hs' sl' => ?_, fun v G' H' d M' n st hs' rd => k v G' H' d M' n st hs' rd⟩
    · rw [← hρ]
      exact SL.start r
    · exact k .non G' H' .non M' n st hs' .non
end

/-! ### calls -/
section
variable {X : Cx} {T : List Addr} {ρ : List (Option D)} {M M1 M2 M3 : Mem} {d da db dc : D} {a b c e o : Expr} {es : List Expr} {pos p apos : Pos} {ds dvs : List D} {R : D → Mem → Prop}
  {α : Type} {args : α → List D} {Mf : α → Mem} {post : α → D → Mem → Prop} {k : Nat} {f C : Addr} {fd : FuncData} {ps : List Str} {nm : Str} {dV : List V} {dU : List Value}
/-- what is owned, and the callee's part of it; Mo what is owned behind the call, by the callee's part behind it -/
structure Fram (M Mf : Mem) (Mo : Mem → Mem) : Prop where
  ex : ∃ R, M.Perm (Mf ++ R) ∧ ∀ m, (m ++ R).Perm (Mo m)
theorem Fram.nil : Fram M [] (fun m => m ++ M) := ⟨M, List.Perm.refl _, fun _ => List.Perm.refl _⟩
theorem Fram.none : Fram M [] (fun m => M ++ m) := ⟨M, List.Perm.refl _, fun _ => List.perm_append_comm⟩
theorem Fram.all : Fram M M (fun m => m) := ⟨[], by rw [List.append_nil], fun m => by rw [List.append_nil]⟩
/-- one chunk, at place j; what is new is put behind -/
def putM (M : Mem) (j : Nat) : Mem → Mem
  | [] => M
  | c :: r => M.set j c ++ r
theorem perm_in {x y : Mem} (h : ∀ m : Mem, (m ++ x).Perm (m ++ y)) : x.Perm y := by simpa using h []
theorem Fram.one (j : Nat) {c : Option (Addr × Ob)} (h : M[j]? = some c := by rfl) : Fram M [c] (fun m => match m with | [] => M.eraseIdx j | c' :: r => M.set j c' ++ r) :=
  ⟨M.eraseIdx j, at_perm h, fun m => by
    cases m with
    | nil => exact List.Perm.refl _
    | cons c' r =>
      show (c' :: (r ++ M.eraseIdx j)).Perm (M.set j c' ++ r)
      have h1 : (r ++ M.eraseIdx j).Perm (M.eraseIdx j ++ r) := List.perm_append_comm
      refine (h1.cons c').trans ?_
      show (([c'] ++ M.eraseIdx j) ++ r).Perm _
      exact (set_perm h c').append_right r⟩
/-- two chunks, at places i < j -/
theorem Fram.two (i j : Nat) {c c2 : Option (Addr × Ob)} (h : M[i]? = some c := by rfl) (h2 : (M.eraseIdx i)[j]? = some c2 := by rfl) :
    Fram M [c, c2] (fun m => match m with | c' :: c2' :: r => (c' :: ((M.eraseIdx i).set j c2' ++ r)) | m => m ++ (M.eraseIdx i).eraseIdx j) :=
  ⟨(M.eraseIdx i).eraseIdx j, (at_perm h).trans ((at_perm h2).cons c), fun m => by
    match m with
    | [] => exact List.Perm.refl _
    | [_] => exact List.Perm.refl _
    | c' :: c2' :: r =>
      show (c' :: c2' :: (r ++ (M.eraseIdx i).eraseIdx j)).Perm (c' :: ((M.eraseIdx i).set j c2' ++ r))
      refine List.Perm.cons c' ?_
      have h1 : (r ++ (M.eraseIdx i).eraseIdx j).Perm ((M.eraseIdx i).eraseIdx j ++ r) := List.perm_append_comm
      refine (h1.cons c2').trans ?_
      show (([c2'] ++ (M.eraseIdx i).eraseIdx j) ++ r).Perm _
      exact (set_perm h2 c2').append_right r⟩
/-- from the caller's state to the callee's promise -/
theorem to_sp {w : World} {Mo : Mem → Mem} {x : α} {G H : Hp} {vs : List V} {Q : VK} {E : XK} (fr : Fram M1 (Mf x) Mo) (hs : HS w T G H M1) (r : DtL w G vs (args x))
    (k : ∀ v G' H' d m, post x d m → Step G H M1 G' H' (Mo m) → HS w T G' H' (Mo m) → Dt w G' v d → Q v H') : spC w T args Mf post vs H Q E := by
  obtain ⟨R, h1, h2⟩ := fr.ex
  have s1 := hs.perm h1
  refine ⟨x, G, s1.left, r, fun v G' H' d m hp st hs' rd => ?_⟩
  obtain ⟨t, s2⟩ := frame_ok s1 st hs'
  exact k v G' H' d m hp ((t.permL h1.symm).permR (h2 m)) (s2.perm (h2 m)) rd
/-- the defaults that fill up -/
structure Dfl (w : World) (dV : List V) (dvs : List D) : Prop where
  ok : ∀ G, DtL w G dV dvs
theorem Dfl.nil {w : World} : Dfl w [] [] := ⟨fun _ => .nil⟩
/-- f(..) -/
theorem pdr_callD (x : α) {Mo : Mem → Mem} (F : FnOk X.prog X.w X.K X.mg X.base CX0 k f fd ps (spC X.w T args Mf post)) (hr : Room k X.A) (hm : X.mg nm = some (.ref f)) (hk : PySem.W.keepIn X.K (.ref f) = true) (hb : Binds X.K fd ps dU) (hd : Vals dV dU) (hD : Dfl X.w dV dvs)
    (ha : PDL X T ρ M (e :: es) ds M1) (hx : args x = ds ++ dvs) (fr : Fram M1 (Mf x) Mo) (hg : Gl X nm := by rfl) (hdb : (nm == ("__debug__" : Str)) = false := by decide) (he : starEach (e :: es) X.env = (false, eval e X.env) :: starEach es X.env := by rfl) (hpl : (backTo pos (starEach es X.env)).any (·.1) = false := by rfl) :
    PDR X T ρ M (.Call (.Name nm p) (e :: es) [] pos) (fun d m => ∃ m', m = Mo m' ∧ post x d m') :=
  (pe_call F hr hg hm hk hb hd pass0 ha hdb he hpl).imp fun σ H Q ⟨G, hs, sl, k⟩ => ⟨G, hs, sl, fun vs G1 H1 st1 hs1 r1 =>
    to_sp fr hs1 (by rw [hx]; exact r1.app (hD.ok _)) fun v G' H' d m hp st hs' rd => k v G' H' d _ ⟨m, rfl, hp⟩ (st1.trans st) hs' rd⟩
theorem pdr_call (x : α) {Mo : Mem → Mem} (F : FnOk X.prog X.w X.K X.mg X.base CX0 k f fd ps (spC X.w T args Mf post)) (hr : Room k X.A) (hm : X.mg nm = some (.ref f)) (hk : PySem.W.keepIn X.K (.ref f) = true) (hb : Binds X.K fd ps [])
    (ha : PDL X T ρ M (e :: es) ds M1) (hx : args x = ds) (fr : Fram M1 (Mf x) Mo) (hg : Gl X nm := by rfl) (hdb : (nm == ("__debug__" : Str)) = false := by decide) (he : starEach (e :: es) X.env = (false, eval e X.env) :: starEach es X.env := by rfl) (hpl : (backTo pos (starEach es X.env)).any (·.1) = false := by rfl) :
    PDR X T ρ M (.Call (.Name nm p) (e :: es) [] pos) (fun d m => ∃ m', m = Mo m' ∧ post x d m') :=
  pdr_callD x F hr hm hk hb .nil Dfl.nil ha (by rw [hx, List.append_nil]) fr hg hdb he hpl
/-- o.m(..) -/
theorem pdr_meth (x : α) {Mo : Mem → Mem} {fs : List (Str × D)} {pl : Sem Bool} (F : FnOk X.prog X.w X.K X.mg X.base CX0 k f fd ps (spC X.w T args Mf post)) (hr : Room k X.A) (c : Cls X.K C) (hm : Meth X.K C nm f) (hb : Binds X.K fd ps [])
    (ho : PD X T ρ M o da M1) (ov : OV M1 da C fs) (ha : PDL X T ρ M1 (e :: es) ds M2) (hx : args x = da :: ds) (fr : Fram M2 (Mf x) Mo) (hl : fs.lookup nm = none := by rfl)
    (hst : starEach (e :: es) X.env = (false, eval e X.env) :: starEach es X.env := by rfl) (hpl : (backTo pos (starEach es X.env)).any (·.1) = false := by rfl)
    (ht : eval (.Call (.Attribute o nm apos) (e :: es) [] pos) X.env = (do
      let ov ← eval o X.env
      standAt apos.atName
      let (f, first) ← holding [ov] (getMethod ov nm pl)
      callWith pos f first (backTo pos (starEach (e :: es) X.env)) (backToKw pos (keywordEach [] X.env))) := by rfl) :
    PDR X T ρ M (.Call (.Attribute o nm apos) (e :: es) [] pos) (fun d m => ∃ m', m = Mo m' ∧ post x d m') :=
  (pe_meth ho c hm F hr hb .nil pass0 ha hst hpl ht).imp fun σ H Q ⟨G, hs, sl, k⟩ => ⟨G, hs, sl, fun v G1 H1 st1 hs1 r1 => by
    obtain ⟨p, dx, ws, rfl, eq, r⟩ := ov.get hs1 r1
    refine ⟨p, dx, ws, rfl, eq, r.none hl, G1, hs1, sl.up st1.up, fun vs G2 H2 st2 hs2 r2 => ?_⟩
    refine to_sp fr hs2 (by rw [hx, List.append_nil]; exact .cons (r1.up st2.up) r2) fun v G' H' d m hp st hs' rd => k v G' H' d _ ⟨m, rfl, hp⟩ ((st1.trans st2).trans st) hs' rd⟩
theorem pdr_meth0 (x : α) {Mo : Mem → Mem} {fs : List (Str × D)} {pl : Sem Bool} (F : FnOk X.prog X.w X.K X.mg X.base CX0 k f fd ps (spC X.w T args Mf post)) (hr : Room k X.A) (c : Cls X.K C) (hm : Meth X.K C nm f) (hb : Binds X.K fd ps [])
    (ho : PD X T ρ M o da M1) (ov : OV M1 da C fs) (hx : args x = [da]) (fr : Fram M1 (Mf x) Mo) (hl : fs.lookup nm = none := by rfl)
    (ht : eval (.Call (.Attribute o nm apos) [] [] pos) X.env = (do
      let ov ← eval o X.env
      standAt apos.atName
      let (f, first) ← holding [ov] (getMethod ov nm pl)
      callWith pos f first (backTo pos (starEach [] X.env)) (backToKw pos (keywordEach [] X.env))) := by rfl) :
    PDR X T ρ M (.Call (.Attribute o nm apos) [] [] pos) (fun d m => ∃ m', m = Mo m' ∧ post x d m') :=
  (pe_meth0 ho c hm F hr hb .nil pass0 ht).imp fun σ H Q ⟨G, hs, sl, k⟩ => ⟨G, hs, sl, fun v G1 H1 st1 hs1 r1 => by
    obtain ⟨p, dx, ws, rfl, eq, r⟩ := ov.get hs1 r1
    refine ⟨p, dx, ws, rfl, eq, r.none hl, ?_⟩
    refine to_sp (E := E0) fr hs1 (by rw [hx]; exact .cons r1 .nil) fun v G' H' d m hp st hs' rd => k v G' H' d _ ⟨m, rfl, hp⟩ (st1.trans st) hs' rd⟩
/-- C(..): __init__'s promise is asked of a bare new instance of ours, first in its part -/
theorem pdr_makeD {g : Addr} (x : Addr → α) (Mr : Addr → Mem) (F : FnOk X.prog X.w X.K X.mg X.base CX0 k g fd ps (spC X.w T args Mf post)) (hM : Mk X.K C g) (hr : Room (k + 1) X.A) (hm : X.mg nm = some (.ref C)) (hb : Binds X.K fd ps dU) (hd : Vals dV dU) (hD : Dfl X.w dV dvs)
    (ha : PDL X T ρ M (e :: es) ds M1) (hx : ∀ q, args (x q) = .ref q :: (ds ++ dvs)) (hf : ∀ q, Mf (x q) = [some (q, .obj C [])]) (hp : ∀ q d m, post (x q) d m → d = .non)
    (hg : Gl X nm := by rfl) (hdb : (nm == ("__debug__" : Str)) = false := by decide) (he : starEach (e :: es) X.env = (false, eval e X.env) :: starEach es X.env := by rfl) (hpl : (backTo pos (starEach es X.env)).any (·.1) = false := by rfl) :
    PDR X T ρ M (.Call (.Name nm p) (e :: es) [] pos) (fun d m => ∃ q m', d = .ref q ∧ m = M1 ++ m' ∧ post (x q) .non m') :=
  (pe_make hM F hr hg hm hb hd pass0 ha hdb he hpl).imp fun σ H Q ⟨G, hs, sl, k⟩ => ⟨G, hs, sl, fun vs G1 H1 st1 hs1 r1 q dx hq hdx ne => by
    have a0 := hs1.new hdx (o := .own q) fun _ z => by cases z
    have t0 := Step.newI hs1 hdx (o := .own q)
    have hq' : upd H1 dx (.own q) q = none := by rw [upd_ne ne.symm]; exact hq
    obtain ⟨a1, t1⟩ := a0.own (ob := .obj C []) (o := .ins C dx []) hq' (fun _ z => by cases z) (fun H' h => ⟨dx, [], h, .nil⟩)
    have up0 := up_upd (o := HO.own q) (hs1.freshG hdx)
    refine to_sp (x := x q) (Mo := fun m => M1 ++ m) ⟨M1, ?_, fun m => List.perm_append_comm⟩ a1 ?_ fun v G' H' d m hpo st hs' rd => ?_
    · rw [hf]
      exact List.perm_append_comm
    · rw [hx]
      exact .cons (.ref q) ((r1.up up0).app (hD.ok _))
    · have e0 := hp q d m hpo
      subst e0
      cases rd
      exact ⟨rfl, k _ G' H' (.ref q) _ ⟨q, m, rfl, rfl, hpo⟩ (((st1.trans t0).trans t1).trans st) hs' (.ref q)⟩⟩
theorem pdr_make0 {g : Addr} (x : Addr → α) (F : FnOk X.prog X.w X.K X.mg X.base CX0 k g fd ps (spC X.w T args Mf post)) (hM : Mk X.K C g) (hr : Room (k + 1) X.A) (hm : X.mg nm = some (.ref C)) (hb : Binds X.K fd ps [])
    (hx : ∀ q, args (x q) = [.ref q]) (hf : ∀ q, Mf (x q) = [some (q, .obj C [])]) (hp : ∀ q d m, post (x q) d m → d = .non)
    (hg : Gl X nm := by rfl) (hdb : (nm == ("__debug__" : Str)) = false := by decide) :
    PDR X T ρ M (.Call (.Name nm p) [] [] pos) (fun d m => ∃ q m', d = .ref q ∧ m = M ++ m' ∧ post (x q) .non m') :=
  (pe_make0 hM F hr hg hm hb .nil pass0 hdb).imp fun σ H Q ⟨G, hs1, sl, k⟩ => fun q dx hq hdx ne => by
    have a0 := hs1.new hdx (o := .own q) fun _ z => by cases z
    have t0 := Step.newI hs1 hdx (o := .own q)
    have hq' : upd H dx (.own q) q = none := by rw [upd_ne ne.symm]; exact hq
    obtain ⟨a1, t1⟩ := a0.own (ob := .obj C []) (o := .ins C dx []) hq' (fun _ z => by cases z) (fun H' h => ⟨dx, [], h, .nil⟩)
    refine to_sp (x := x q) (Mo := fun m => M ++ m) ⟨M, ?_, fun m => List.perm_append_comm⟩ a1 ?_ fun v G' H' d m hpo st hs' rd => ?_
    · rw [hf]
      exact List.perm_append_comm
    · rw [hx]
      exact .cons (.ref q) .nil
    · have e0 := hp q d m hpo
      subst e0
      cases rd
      exact ⟨rfl, k _ G' H' (.ref q) _ ⟨q, m, rfl, rfl, hpo⟩ ((t0.trans t1).trans st) hs' (.ref q)⟩
end
end LW

set_option Elab.async false
set_option linter.all false
set_option maxRecDepth 100000
set_option maxHeartbeats 2000000
/-! LE: what is walked; for, while; list comprehensions; stores. -/
namespace LW
open PySem PySem.Spec PyProof.Rows L2
/-- an iterator, made at (G0, H0, M0), that gives ds while ok of what is owned -/
structure ItD (w : World) (T : List Addr) (ok : Mem → Prop) (ds : List D) (J : It) (G0 H0 : Hp) (M0 : Mem) : Prop where
  go : ∀ (i : Nat) (G H : Hp) (M : Mem), i < ds.length → Step G0 H0 M0 G H M → HS w T G H M → ok M → J.go i H
  yld : ∀ (i : Nat) (G H : Hp) (M : Mem) (x : V) (H' : Hp) (d : D), Step G0 H0 M0 G H M → HS w T G H M → ok M → ds[i]? = some d → J.yld i H x H' → ∃ G', Step G H M G' H' M ∧ HS w T G' H' M ∧ Dt w G' x d
  stop : ∀ (G H : Hp) (M : Mem), Step G0 H0 M0 G H M → HS w T G H M → ok M → J.stop ds.length H
def tI (w : World) (T : List Addr) (ρ : List (Option D)) (M : Mem) (ds : List D) (M' : Mem) (ok : Mem → Prop) : TI := fun σ H R => ∃ G, HS w T G H M ∧ SL w G σ ρ ∧
  ∀ J G' H', Step G H M G' H' M' → HS w T G' H' M' → ItD w T ok ds J G' H' M' → R J H'
abbrev PDI (X : Cx) (T : List Addr) (ρ : List (Option D)) (M : Mem) (tg iter : Expr) (ds : List D) (M' : Mem) (ok : Mem → Prop) : Prop := PI X tg iter (tI X.w T ρ M ds M' ok)
theorem _root_.L2.PI.imp {X : Cx} {tg iter : Expr} {t t' : TI} (h : PI X tg iter t) (k : ∀ σ H R, t' σ H R → t σ H R) : PI X tg iter t' :=
  ⟨fun pins s σ H R I q => h.run pins s σ H R I (k _ _ _ q)⟩
theorem _root_.L2.PTs.imp {X : Cx} {e : List Expr} {t t' : TT} (h : PTs X e t) (k : ∀ σ H Q, t' σ H Q → t σ H Q) : PTs X e t' :=
  ⟨fun pins s σ H Q I q => h.run pins s σ H Q I (k _ _ _ q)⟩
theorem _root_.L2.PTs.ex {X : Cx} {e : List Expr} {α : Type} {t : α → TT} (h : ∀ x, PTs X e (t x)) : PTs X e (fun σ H Q => ∃ x, t x σ H Q) :=
  ⟨fun pins s σ H Q I ⟨x, q⟩ => (h x).run pins s σ H Q I q⟩
theorem _root_.L2.PTs.exB {X : Cx} {e : List Expr} {t : TT} {P : Prop} (h : P → PTs X e t) : PTs X e (fun σ H Q => P ∧ t σ H Q) :=
  ⟨fun pins s σ H Q I q => (h q.1).run pins s σ H Q I q.2⟩
abbrev PDTs (X : Cx) (T : List Addr) (ρ : List (Option D)) (M : Mem) (e : List Expr) (b : Bool) (M' : Mem) : Prop := PTs X e (tET X.w T ρ M b M')
/-- where an item goes: which slots, and what into them -/
structure Tgt (w : World) (g : TG) (is : List Nat) (unp : D → Option (List D)) : Prop where
  ok : ∀ (T : List Addr) (v : V) (σ : L2.St) (G H : Hp) (M : Mem) (Q : L2.St → Hp → Prop) (d : D) (ds : List D), HS w T G H M → Dt w G v d → unp d = some ds → (∀ σ', (∀ ρ, SL w G σ ρ → SL w G σ' ((is.zip ds).foldl (fun r p => r.set p.1 (some p.2)) ρ)) → (∀ vs : List Nat, (∀ i ∈ is, i ∈ vs) → wipe σ' vs = wipe σ vs) → Q σ' H) → g v σ H Q
def setsD (ρ : List (Option D)) (is : List Nat) (ds : List D) : List (Option D) := (is.zip ds).foldl (fun r p => r.set p.1 (some p.2)) ρ
def un1 : D → Option (List D) := fun d => some [d]
def unT (n : Nat) : D → Option (List D) := fun d => match d with
  | .tup ds => if ds.length = n then some ds else none
  | _ => none
theorem wipe_set {σ : L2.St} {i : Nat} {x : Option V} : ∀ {vs : List Nat}, i ∈ vs → wipe (σ.set i x) vs = wipe σ vs
  | v :: vs, h => by
    unfold wipe
    by_cases e : i ∈ vs
    · rw [wipe_set e]
    · rcases List.mem_cons.mp h with q | q
      · subst q
        have hh : ∀ us : List Nat, i ∉ us → wipe (σ.set i x) us = (wipe σ us).set i x := by
          intro us
          induction us with
          | nil => intro _; rfl
          | cons u us ih =>
            intro hn
            unfold wipe
            rw [ih fun z => hn (List.mem_cons_of_mem _ z)]
            exact List.set_comm _ _ fun z => hn (z ▸ List.mem_cons_self)
        rw [hh vs e, List.set_set]
      · exact absurd q e
theorem wipe_wipe {σ : L2.St} : ∀ {vs us : List Nat}, (∀ i ∈ vs, i ∈ us) → wipe (wipe σ vs) us = wipe σ us
  | [], _, _ => rfl
  | v :: vs, us, h => by
    show wipe ((wipe σ vs).set v none) us = _
    rw [wipe_set (h v List.mem_cons_self)]
    exact wipe_wipe fun i hi => h i (List.mem_cons_of_mem _ hi)
theorem tgt_name {w : World} (i : Nat) : Tgt w (gName i) [i] un1 := ⟨fun T v σ G H M Q d ds hs r e k => by
  cases e
  exact k _ (fun ρ sl => sl.set i r) fun vs h => wipe_set (h i List.mem_cons_self)⟩
section
variable {w : World} {K : PySem.W.Frag}
theorem gcons_ok {G H : Hp} {Q : L2.St → Hp → Prop} : ∀ {is : List Nat} {vs : List V} {ds : List D} {σ : L2.St}, is.length = ds.length → DtL w G vs ds →
    (∀ σ', (∀ ρ, SL w G σ ρ → SL w G σ' ((is.zip ds).foldl (fun r p => r.set p.1 (some p.2)) ρ)) → (∀ us : List Nat, (∀ i ∈ is, i ∈ us) → wipe σ' us = wipe σ us) → Q σ' H) → (is.foldr (fun i t => gCons (gName i) t) gNil) vs σ H Q
  | [], vs, ds, σ, e, r, k => by
    cases r with
    | nil => exact ⟨rfl, k σ (fun ρ sl => sl) fun _ _ => rfl⟩
    | cons h r => cases e
  | i :: is, vs, ds, σ, e, r, k => by
    cases r with
    | nil => cases e
    | cons h r =>
      refine ⟨_, _, rfl, ?_⟩
      refine gcons_ok (is := is) (by simpa using e) r fun σ' h1 h2 => k σ' (fun ρ sl => h1 _ (sl.set i h)) fun us hu => ?_
      rw [h2 us fun j hj => hu j (List.mem_cons_of_mem _ hj)]
      exact wipe_set (hu i List.mem_cons_self)
theorem tgt_tup (is : List Nat) : Tgt w (gTup K is.length (is.foldr (fun i t => gCons (gName i) t) gNil)) is (unT is.length) := ⟨fun T v σ G H M Q d ds hs r e k => by
  cases d with
  | tup es =>
    unfold unT at e
    simp only at e
    split at e
    · rename_i hl
      cases e
      obtain ⟨a, xs, rfl, h1, h2⟩ := r.tupH hs
      exact ⟨a, xs, rfl, SqT.of h1, by rw [h2.length, hl], gcons_ok hl.symm h2 k⟩
    · cases e
  | _ => cases e⟩
end
section
variable {X : Cx} {T : List Addr} {ρ ρ' : List (Option D)} {M M1 M2 M3 M' : Mem} {d da db dc : D} {a b c e iter tg : Expr} {es : List Expr} {pos p tpos : Pos} {ds : List D} {ok : Mem → Prop}
  {st : Stmt} {rest body : List Stmt} {Nx Nx1 : List (Option D) → Mem → Prop} {Rt : D → Mem → Prop}
/-! ### the sources -/
theorem pdi_list (l : LV M1 da ds) (h : PD X T ρ M e da M1) : PDI X T ρ M tg e ds M1 (fun m => LV m da ds) :=
  (pi_list h).imp fun σ H R ⟨G, hs, sl, k⟩ => ⟨G, hs, sl, fun v G1 H1 st hs1 r => by
    obtain ⟨q, xs, rfl, e1, r1⟩ := l.get hs1 r
    refine ⟨q, rfl, ⟨xs, SqL.of e1⟩, k _ G1 H1 st hs1 ⟨fun i G2 H2 M2 hi st2 hs2 hok => ?_, fun i G2 H2 M2 x H' d st2 hs2 hok hd hy => ?_, fun G2 H2 M2 st2 hs2 hok => ?_⟩⟩
    · obtain ⟨q', ys, eq, e2, r2⟩ := hok.get hs2 (r.up st2.up)
      cases eq
      have hl : i < ys.length := by rw [r2.length]; exact hi
      exact ⟨ys, ys[i], SqL.of e2, List.getElem?_eq_getElem hl⟩
    · obtain ⟨q', ys, eq, e2, r2⟩ := hok.get hs2 (r.up st2.up)
      cases eq
      obtain ⟨rfl, hx⟩ := hy
      obtain ⟨u, hu, ru⟩ := r2.get hd
      have := hx ys (SqL.of e2)
      rw [hu] at this
      cases this
      exact ⟨G2, Step.refl _ _ _, hs2, ru⟩
    · obtain ⟨q', ys, eq, e2, r2⟩ := hok.get hs2 (r.up st2.up)
      cases eq
      exact ⟨ys, SqL.of e2, by rw [r2.length]; exact Nat.le_refl _⟩⟩
theorem pdi_tup (h : PD X T ρ M e (.tup ds) M1) : PDI X T ρ M tg e ds M1 (fun _ => True) :=
  (pi_tup h).imp fun σ H R ⟨G, hs, sl, k⟩ => ⟨G, hs, sl, fun v G1 H1 st hs1 r => by
    obtain ⟨q, xs, rfl, e1, r1⟩ := r.tupH hs1
    refine ⟨q, rfl, ⟨xs, SqT.of e1⟩, k _ G1 H1 st hs1 ⟨fun i G2 H2 M2 hi st2 hs2 hok => ?_, fun i G2 H2 M2 x H' d st2 hs2 hok hd hy => ?_, fun G2 H2 M2 st2 hs2 hok => ?_⟩⟩
    · obtain ⟨q', ys, eq, e2, r2⟩ := (r.up st2.up).tupH hs2
      cases eq
      have hl : i < ys.length := by rw [r2.length]; exact hi
      exact ⟨ys, ys[i], SqT.of e2, List.getElem?_eq_getElem hl⟩
    · obtain ⟨q', ys, eq, e2, r2⟩ := (r.up st2.up).tupH hs2
      cases eq
      obtain ⟨rfl, hx⟩ := hy
      obtain ⟨u, hu, ru⟩ := r2.get hd
      have := hx ys (SqT.of e2)
      rw [hu] at this
      cases this
      exact ⟨G2, Step.refl _ _ _, hs2, ru⟩
    · obtain ⟨q', ys, eq, e2, r2⟩ := (r.up st2.up).tupH hs2
      cases eq
      exact ⟨ys, SqT.of e2, by rw [r2.length]; exact Nat.le_refl _⟩⟩
/-- n whole numbers from lo on -/
def rngD (lo : Int) (n : Nat) : List D := (List.range n).map fun (i : Nat) => D.int (lo + i)
theorem rngD_length {lo : Int} {n : Nat} : (rngD lo n).length = n := by simp [rngD]
theorem rngD_get {lo : Int} {n i : Nat} {d : D} (h : (rngD lo n)[i]? = some d) : i < n ∧ d = .int (lo + i) := by
  unfold rngD at h
  rw [List.getElem?_map] at h
  by_cases hi : i < n
  · rw [List.getElem?_range hi] at h
    cases h
    exact ⟨hi, rfl⟩
  · rw [List.getElem?_eq_none (by simpa using hi)] at h
    cases h
theorem itd_rng {w : World} {lo : Int} {n : Nat} {G H : Hp} : ItD w T (fun _ => True) (rngD lo n) (Itr lo n) G H M := by
  refine ⟨fun i G2 H2 M2 hi _ _ _ => by rw [rngD_length] at hi; exact hi, fun i G2 H2 M2 x H' d _ hs2 _ hd hy => ?_, fun _ _ _ _ _ _ => by rw [rngD_length]; exact Nat.le_refl n⟩
  obtain ⟨rfl, rfl⟩ := hy
  obtain ⟨_, rfl⟩ := rngD_get hd
  exact ⟨G2, Step.refl _ _ _, hs2, .int _⟩
theorem pdi_range1 {j : Int} (hm : X.mg "range" = none) (h : PD X T ρ M a (.int j) M1) (h1 : -(2 ^ 62) ≤ j) (h2 : j < 2 ^ 62) (hg : Gl X "range" := by rfl) (hs : starEach [a] X.env = (false, eval a X.env) :: starEach [] X.env := by rfl) : PDI X T ρ M tg (.Call (.Name "range" p) [a] [] pos) (rngD 0 j.toNat) M1 (fun _ => True) :=
  (pi_range1 hg hm (pdl_1 h hs) hs).imp fun σ H R ⟨G, hs, sl, k⟩ => ⟨G, hs, sl, fun vs G1 H1 st hs1 r => by
    obtain ⟨v, rfl, rr⟩ := r.one
    cases rr
    exact ⟨j, rfl, h1, h2, k _ G1 H1 st hs1 itd_rng⟩⟩
theorem pdi_range2 {i j : Int} (hm : X.mg "range" = none) (h : PD X T ρ M a (.int i) M1) (h' : PD X T ρ M1 b (.int j) M2) (h1 : -(2 ^ 62) ≤ i) (h2 : i < 2 ^ 62) (h3 : -(2 ^ 62) ≤ j) (h4 : j < 2 ^ 62) (hg : Gl X "range" := by rfl)
    (hs : starEach [a, b] X.env = (false, eval a X.env) :: starEach [b] X.env := by rfl) (hs2 : starEach [b] X.env = (false, eval b X.env) :: starEach [] X.env := by rfl) : PDI X T ρ M tg (.Call (.Name "range" p) [a, b] [] pos) (rngD i (j - i).toNat) M2 (fun _ => True) :=
  (pi_range2 hg hm (pdl_cons h (pdl_1 h' hs2) hs) (hs.trans (congrArg _ hs2)) hs2).imp fun σ H R ⟨G, hs, sl, k⟩ => ⟨G, hs, sl, fun vs G1 H1 st hs1 r => by
    obtain ⟨v, u, rfl, rr, r'⟩ := r.two
    cases rr
    cases r'
    exact ⟨i, j, rfl, ⟨h1, h2, h3, h4⟩, k _ G1 H1 st hs1 itd_rng⟩⟩
/-! ### for -/
theorem pb1_for {g : TG} {is : List Nat} {unp : D → Option (List D)} (hi : PDI X T ρ M tg iter ds M1 ok) (hg : PG X tg g) (ht : Tgt X.w g is unp) (W : Nat → List (Option D) → Mem → Prop) (h0 : W 0 ρ M1)
    (hok : ∀ i ρ' M', i ≤ ds.length → W i ρ' M' → ok M') (hu : ∀ (i : Nat) (d : D), ds[i]? = some d → ∃ us, unp d = some us)
    (hb : ∀ (i : Nat) (d : D) (us : List D) ρ' M', ds[i]? = some d → unp d = some us → W i ρ' M' → PB X T (setsD ρ' is us) M' body (W (i + 1)) Rt)
    (hd : ∀ ρ' M', W ds.length ρ' M' → Nx ρ' M') (hp : PassesOwn (model X.prog X.w) X.A X.env X.xe := by exact PassesOwn.never) (hc : X.calm = true := by rfl) (hs : ∀ x, foldedSetIterable iter X.env x = pure x := by intro _; rfl) : PB1 X T ρ M (.For tg iter body [] pos) Nx Rt := by
  have hbody := PSs.ex fun (x : Nat × D × List D × List (Option D) × Mem) => PSs.exB (P := ds[x.1]? = some x.2.1 ∧ unp x.2.1 = some x.2.2.1 ∧ W x.1 x.2.2.2.1 x.2.2.2.2) fun q => hb x.1 x.2.1 x.2.2.1 x.2.2.2.1 x.2.2.2.2 q.1 q.2.1 q.2.2
  refine PS.imp (ps_for hp hc hi hg hbody hs) fun D σ H ⟨G, hs, sl, k1, k2⟩ => ⟨G, hs, sl, fun J G1 H1 st1 hs1 it => ?_⟩
  refine ⟨fun i m σ' H' => m = ds.length - i ∧ i ≤ ds.length ∧ ∃ G' ρ' M', W i ρ' M' ∧ Step G1 H1 M1 G' H' M' ∧ HS X.w T G' H' M' ∧ SL X.w G' σ' ρ', ⟨_, rfl, Nat.zero_le _, G1, ρ, M1, h0, Step.refl _ _ _, hs1, sl.up st1.up⟩, ?_⟩
  rintro i m σ' H' ⟨rfl, hle, G', ρ', M', hW, st', hs', sl'⟩
  by_cases hlt : i < ds.length
  · refine .inr ⟨it.go i G' H' M' hlt st' hs' (hok i ρ' M' hle hW), fun σ2 H2 => ∃ m', m' < ds.length - i ∧ (m' = ds.length - (i + 1) ∧ i + 1 ≤ ds.length ∧ ∃ G2 ρ2 M2, W (i + 1) ρ2 M2 ∧ Step G1 H1 M1 G2 H2 M2 ∧ HS X.w T G2 H2 M2 ∧ SL X.w G2 σ2 ρ2), fun σ2 H2 q => q, fun x H2 hy => ?_⟩
    have hd' : ds[i]? = some ds[i] := List.getElem?_eq_getElem hlt
    obtain ⟨us, hus⟩ := hu i _ hd'
    obtain ⟨G2, st2, hs2, r⟩ := it.yld i G' H' M' x H2 _ st' hs' (hok i ρ' M' hle hW) hd' hy
    refine ht.ok T x σ' G2 H2 M' _ _ us hs2 r hus fun σ3 hsl _ => ⟨(i, ds[i], us, ρ', M'), ⟨hd', hus, hW⟩, G2, hs2, hsl ρ' (sl'.up st2.up), fun σ4 G4 H4 ρ4 M4 hn st4 hs4 sl4 => ?_, fun v G4 H4 d4 M4 hr st4 hs4 rd => ?_⟩
    · exact ⟨_, by omega, rfl, hlt, G4, ρ4, M4, hn, (st'.trans st2).trans st4, hs4, sl4⟩
    · exact k2 v G4 H4 d4 M4 hr (((st1.trans st').trans st2).trans st4) hs4 rd
  · have e : i = ds.length := Nat.le_antisymm hle (Nat.le_of_not_lt hlt)
    subst e
    exact .inl ⟨it.stop G' H' M' st' hs' (hok _ ρ' M' hle hW), k1 σ' G' H' ρ' M' (hd ρ' M' hW) (st1.trans st') hs' sl'⟩
theorem pb_for {g : TG} {is : List Nat} {unp : D → Option (List D)} (hi : PDI X T ρ M tg iter ds M1 ok) (hg : PG X tg g) (ht : Tgt X.w g is unp) (W : Nat → List (Option D) → Mem → Prop) (h0 : W 0 ρ M1)
    (hok : ∀ i ρ' M', i ≤ ds.length → W i ρ' M' → ok M') (hu : ∀ (i : Nat) (d : D), ds[i]? = some d → ∃ us, unp d = some us)
    (hb : ∀ (i : Nat) (d : D) (us : List D) ρ' M', ds[i]? = some d → unp d = some us → W i ρ' M' → PB X T (setsD ρ' is us) M' body (W (i + 1)) Rt)
    (hd : ∀ ρ' M', W ds.length ρ' M' → PB X T ρ' M' rest Nx Rt) (hp : PassesOwn (model X.prog X.w) X.A X.env X.xe := by exact PassesOwn.never) (hc : X.calm = true := by rfl) (hs : ∀ x, foldedSetIterable iter X.env x = pure x := by intro _; rfl) : PB X T ρ M (.For tg iter body [] pos :: rest) Nx Rt :=
  pb_seq (pb1_for hi hg ht W h0 hok hu hb (fun _ _ h => h) hp hc hs) hd
/-! ### while -/
theorem pb1_while (W : List (Option D) → Mem → Bool → Mem → Prop) (μ : List (Option D) → Mem → Nat) (k0 : ∃ b M1, W ρ M b M1) (ht : ∀ ρ' M' b M1, W ρ' M' b M1 → PDT X T ρ' M' c b M1)
    (hb : ∀ ρ' M' M1, W ρ' M' true M1 → PB X T ρ' M1 body (fun ρ2 M2 => μ ρ2 M2 < μ ρ' M' ∧ ∃ b M3, W ρ2 M2 b M3) Rt) (hd : ∀ ρ' M' M1, W ρ' M' false M1 → Nx ρ' M1) (hp : PassesOwn (model X.prog X.w) X.A X.env X.xe := by exact PassesOwn.never) : PB1 X T ρ M (.While c body [] pos) Nx Rt := by
  have htest := PT.exB (X := X) (e := c) (P := True) (t := fun σ H Q => ∃ x : List (Option D) × Mem × Bool × Mem, W x.1 x.2.1 x.2.2.1 x.2.2.2 ∧ tET X.w T x.1 x.2.1 x.2.2.1 x.2.2.2 σ H Q) fun _ => ⟨fun pins s σ H Q I ⟨x, q1, q2⟩ => (ht _ _ _ _ q1).run pins s σ H Q I q2⟩
  have hbody := PSs.ex fun (x : List (Option D) × Mem × Mem) => PSs.exB (P := W x.1 x.2.1 true x.2.2) fun q => hb x.1 x.2.1 x.2.2 q
  refine PS.imp (ps_while hp htest hbody) fun D σ H ⟨G, hs, sl, k1, k2⟩ => ?_
  obtain ⟨b0, M0, hW0⟩ := k0
  refine ⟨fun m σ' H' => ∃ G' ρ' M' b M1, m = μ ρ' M' ∧ W ρ' M' b M1 ∧ Step G H M G' H' M' ∧ HS X.w T G' H' M' ∧ SL X.w G' σ' ρ', ⟨_, G, ρ, M, b0, M0, rfl, hW0, Step.refl _ _ _, hs, sl⟩, ?_⟩
  rintro m σ' H' ⟨G', ρ', M', b, M1, rfl, hW, st', hs', sl'⟩
  refine ⟨trivial, (ρ', M', b, M1), hW, G', hs', sl', fun G2 H2 st2 hs2 => ?_⟩
  cases b with
  | false => exact k1 σ' G2 H2 ρ' M1 (hd _ _ _ hW) (st'.trans st2) hs2 (sl'.up st2.up)
  | true =>
    refine ⟨fun σ2 H2' => ∃ m', m' < μ ρ' M' ∧ ∃ G3 ρ3 M3 b3 M4, m' = μ ρ3 M3 ∧ W ρ3 M3 b3 M4 ∧ Step G H M G3 H2' M3 ∧ HS X.w T G3 H2' M3 ∧ SL X.w G3 σ2 ρ3, fun σ2 H3 q => q, (ρ', M', M1), hW, G2, hs2, sl'.up st2.up, fun σ4 G4 H4 ρ4 M4 hn st4 hs4 sl4 => ?_, fun v G4 H4 d4 M4 hr st4 hs4 rd => ?_⟩
    · obtain ⟨h1, b3, M5, h2⟩ := hn
      exact ⟨_, h1, G4, ρ4, M4, b3, M5, rfl, h2, (st'.trans st2).trans st4, hs4, sl4⟩
    · exact k2 v G4 H4 d4 M4 hr ((st'.trans st2).trans st4) hs4 rd
theorem pb_while (W : List (Option D) → Mem → Bool → Mem → Prop) (μ : List (Option D) → Mem → Nat) (k0 : ∃ b M1, W ρ M b M1) (ht : ∀ ρ' M' b M1, W ρ' M' b M1 → PDT X T ρ' M' c b M1)
    (hb : ∀ ρ' M' M1, W ρ' M' true M1 → PB X T ρ' M1 body (fun ρ2 M2 => μ ρ2 M2 < μ ρ' M' ∧ ∃ b M3, W ρ2 M2 b M3) Rt) (hd : ∀ ρ' M' M1, W ρ' M' false M1 → PB X T ρ' M1 rest Nx Rt) (hp : PassesOwn (model X.prog X.w) X.A X.env X.xe := by exact PassesOwn.never) : PB X T ρ M (.While c body [] pos :: rest) Nx Rt :=
  pb_seq (Nx1 := fun ρ' M1 => ∃ M', W ρ' M' false M1) (pb1_while W μ k0 ht hb (fun ρ' M' M1 h => ⟨M', h⟩) hp) fun ρ' M1 ⟨M', h⟩ => hd ρ' M' M1 h
end

/-! ### list comprehensions -/
/-- the block's slots forgotten -/
def wipeD (ρ : List (Option D)) : List Nat → List (Option D)
  | [] => ρ
  | v :: vs => (wipeD ρ vs).set v none
theorem SL.setN {w : World} {G : Hp} {σ : L2.St} {ρ : List (Option D)} (s : SL w G σ ρ) (i : Nat) : SL w G (σ.set i none) (ρ.set i none) := by
  refine ⟨by rw [List.length_set, List.length_set]; exact s.len, fun j e hj => ?_⟩
  by_cases h : i = j
  · subst h
    by_cases hl : i < ρ.length
    · rw [List.getElem?_set_self hl] at hj
      cases hj
    · rw [List.getElem?_eq_none (by rw [List.length_set]; omega)] at hj
      cases hj
  · rw [List.getElem?_set_ne h] at hj ⊢
    exact s.at_ j e hj
theorem SL.wipe {w : World} {G : Hp} {σ : L2.St} {ρ : List (Option D)} (s : SL w G σ ρ) : ∀ vs : List Nat, SL w G (L2.wipe σ vs) (wipeD ρ vs)
  | [] => s
  | v :: vs => by
    unfold L2.wipe wipeD
    exact (SL.wipe s vs).setN v
/-- what the turns give -/
def given (n : Nat) (kp : Nat → Bool) (el : Nat → D) : List D := ((List.range n).filter kp).map el
theorem given_yes {n : Nat} {kp : Nat → Bool} {el : Nat → D} (h : kp n = true) : given (n + 1) kp el = given n kp el ++ [el n] := by
  simp [given, List.range_succ, List.filter_append, h]
theorem given_no {n : Nat} {kp : Nat → Bool} {el : Nat → D} (h : kp n = false) : given (n + 1) kp el = given n kp el := by
  simp [given, List.range_succ, List.filter_append, h]
theorem given_len (n : Nat) (kp : Nat → Bool) (el : Nat → D) : (given n kp el).length ≤ n := by
  unfold given
  rw [List.length_map]
  exact Nat.le_trans (List.length_filter_le _ _) (by simp)
section
variable {X : Cx} {T : List Addr} {ρ : List (Option D)} {M M1 : Mem} {d : D} {elt iter tg : Expr} {ifs : List Expr} {pos p tpos : Pos} {ds : List D} {ok : Mem → Prop}
/-- what a block's turn reads: i the turn, us what goes into the target's slots -/
def tLT (w : World) (T : List Addr) (ρb : List (Option D)) (is : List Nat) (unp : D → Option (List D)) (ds : List D) (Ms Mt : Nat → Mem) (kp : Nat → Bool) : TT := fun σ H Q => ∃ x : Nat × D × List D, (ds[x.1]? = some x.2.1 ∧ unp x.2.1 = some x.2.2) ∧ tET w T (setsD ρb is x.2.2) (Ms x.1) (kp x.1) (Mt x.1) σ H Q
def tLE (w : World) (T : List Addr) (ρb : List (Option D)) (is : List Nat) (unp : D → Option (List D)) (ds : List D) (Ms Mt : Nat → Mem) (kp : Nat → Bool) (el : Nat → D) : TE := fun σ H Q => ∃ x : Nat × D × List D, (ds[x.1]? = some x.2.1 ∧ unp x.2.1 = some x.2.2 ∧ kp x.1 = true) ∧ tE w T (setsD ρb is x.2.2) (Mt x.1) (el x.1) (Ms (x.1 + 1)) σ H Q
theorem lc_in {w : World} {g : TG} {is : List Nat} {unp : D → Option (List D)} {vs : List Nat} {Ms Mt : Nat → Mem} {kp : Nat → Bool} {el : Nat → D} (ht : Tgt w g is unp) (hv : ∀ i ∈ is, i ∈ vs) (h0 : Ms 0 = M1)
    (hok : ∀ i, i ≤ ds.length → ok (Ms i)) (hu : ∀ (i : Nat) (d : D), ds[i]? = some d → ∃ us, unp d = some us) (hno : ∀ i, i < ds.length → kp i = false → Mt i = Ms (i + 1)) (hz : ds.length ≤ 16000000) (σ : L2.St) (H : Hp) (Q : VK)
    (h : tE w T ρ M (.lst (given ds.length kp el)) (Ms ds.length) σ H Q) : tLc (tI w T ρ M ds M1 ok) g (tLT w T (wipeD ρ vs) is unp ds Ms Mt kp) (tLE w T (wipeD ρ vs) is unp ds Ms Mt kp el) vs σ H Q := by
  obtain ⟨G, hs, sl, k⟩ := h
  refine ⟨G, hs, sl, fun J G1 H1 st1 hs1 it L hL => ?_⟩
  subst h0
  obtain ⟨a1, t1⟩ := hs1.own (ob := .lst []) (o := .lst []) hL (fun _ z => by cases z) fun H' e => ⟨[], e, .nil⟩
  refine ⟨fun i m H' => m = ds.length - i ∧ i ≤ ds.length ∧ ∃ G', Step G1 H1 (Ms 0) G' H' (Ms i ++ [some (L, .lst (given i kp el))]) ∧ HS w T G' H' (Ms i ++ [some (L, .lst (given i kp el))]), ⟨_, rfl, Nat.zero_le _, G1, t1, a1⟩, ?_⟩
  rintro i m H' ⟨rfl, hle, G', st', hs'⟩
  have hsl : HS w T G' H' (Ms i) := hs'.left
  have st0 : Step G1 H1 (Ms 0) G' H' (Ms i) := ⟨st'.up, st'.new, st'.keep, fun a h => st'.adr_ a (by rw [adr_app]; exact List.mem_append_left _ h)⟩
  by_cases hlt : i < ds.length
  · refine .inr ⟨it.go i G' H' _ hlt st0 hsl (hok i hle), fun H2 => ∃ m', m' < ds.length - i ∧ (m' = ds.length - (i + 1) ∧ i + 1 ≤ ds.length ∧ ∃ G2, Step G1 H1 (Ms 0) G2 H2 (Ms (i + 1) ++ [some (L, .lst (given (i + 1) kp el))]) ∧ HS w T G2 H2 (Ms (i + 1) ++ [some (L, .lst (given (i + 1) kp el))])), fun H2 q => q, fun x H2 hy => ?_⟩
    have hd' : ds[i]? = some ds[i] := List.getElem?_eq_getElem hlt
    obtain ⟨us, hus⟩ := hu i _ hd'
    obtain ⟨G2, st2, hs2, r⟩ := it.yld i G' H' (Ms i) x H2 _ st0 hsl (hok i hle) hd' hy
    obtain ⟨st2', hs2'⟩ := frame_ok hs' st2 hs2
    refine ht.ok T x (L2.wipe σ vs) G2 H2 (Ms i) _ _ us hs2 r hus fun σ3 hsl3 hw => ⟨?_, (i, ds[i], us), ⟨hd', hus⟩, G2, hs2, hsl3 _ (((sl.up st1.up).up (st'.up)).up st2.up |>.wipe vs), fun G4 H4 st4 hs4 => ?_⟩
    · rw [hw vs hv]
      exact wipe_wipe fun _ h => h
    · obtain ⟨st4', hs4'⟩ := frame_ok hs2' st4 hs4
      have sl4 : SL w G4 σ3 (setsD (wipeD ρ vs) is us) := (hsl3 _ (((sl.up st1.up).up (st'.up)).up st2.up |>.wipe vs)).up st4.up
      cases hk : kp i with
      | false =>
        rw [if_neg Bool.false_ne_true]
        refine ⟨_, by omega, rfl, hlt, G4, ?_, ?_⟩
        · rw [given_no hk, ← hno i hlt hk]
          exact ((st'.trans st2').trans st4')
        · rw [given_no hk, ← hno i hlt hk]
          exact hs4'
      | true =>
        rw [if_pos rfl]
        refine ⟨(i, ds[i], us), ⟨hd', hus, hk⟩, G4, hs4, sl4, fun y G5 H5 st5 hs5 ry => ?_⟩
        obtain ⟨st5', hs5'⟩ := frame_ok hs4' st5 hs5
        obtain ⟨g0, acc, hacc, racc⟩ := hs5'.mem L (.lst (given i kp el)) (List.mem_append_right _ List.mem_cons_self)
        have hj : (Ms (i + 1) ++ [some (L, .lst (given i kp el))])[(Ms (i + 1)).length]? = some (some (L, .lst (given i kp el))) := by
          rw [List.getElem?_append_right (Nat.le_refl _), Nat.sub_self]
          rfl
        have hset : (Ms (i + 1) ++ [some (L, Ob.lst (given i kp el))]).set (Ms (i + 1)).length (some (L, .lst (given i kp el ++ [el i]))) = Ms (i + 1) ++ [some (L, .lst (given i kp el ++ [el i]))] := by
          rw [List.set_append_right _ _ (Nat.le_refl _), Nat.sub_self]
          rfl
        obtain ⟨a6, t6⟩ := hs5'.put (ob' := .lst (given i kp el ++ [el i])) (o := .lst (acc ++ [y])) hj (fun _ z => by cases z) fun H' e => ⟨_, e, racc.app (.cons ry .nil)⟩
        rw [hset] at a6 t6
        have hl : acc.length = (given i kp el).length := racc.length
        refine ⟨acc, hacc, ?_, _, by omega, rfl, hlt, G5, ?_, ?_⟩
        · have := given_len i kp el
          show acc.length < 16777216
          omega
        · rw [given_yes hk]
          exact ((((st'.trans st2').trans st4').trans st5').trans t6)
        · rw [given_yes hk]
          exact a6
  · have e : i = ds.length := Nat.le_antisymm hle (Nat.le_of_not_lt hlt)
    subst e
    refine .inl ⟨it.stop G' H' _ st0 hsl (hok _ hle), ?_⟩
    obtain ⟨g0, acc, hacc, racc⟩ := hs'.mem L (.lst (given ds.length kp el)) (List.mem_append_right _ List.mem_cons_self)
    have hj : (Ms ds.length ++ [some (L, .lst (given ds.length kp el))])[(Ms ds.length).length]? = some (some (L, .lst (given ds.length kp el))) := by
      rw [List.getElem?_append_right (Nat.le_refl _), Nat.sub_self]
      rfl
    obtain ⟨a6, t6⟩ := hs'.freeze hj hacc fun _ z => by cases z
    have hset : (Ms ds.length ++ [some (L, Ob.lst (given ds.length kp el))]).set (Ms ds.length).length none = Ms ds.length ++ [none] := by
      rw [List.set_append_right _ _ (Nat.le_refl _), Nat.sub_self]
      rfl
    rw [hset] at a6 t6
    have t7 := (st1.trans st').trans t6
    refine k (.ref L) _ H' ⟨t7.up, t7.new, t7.keep, fun a h => t7.adr_ a (by rw [adr_app]; exact List.mem_append_left _ h)⟩ a6.left ?_
    exact .lst upd_same (racc.up (up_upd g0))
/-- the turns' parts, from what they are for each turn -/
theorem lt_in {X' : Cx} {ρb : List (Option D)} {is : List Nat} {unp : D → Option (List D)} {Ms Mt : Nat → Mem} {kp : Nat → Bool}
    (h : ∀ (i : Nat) (d : D) (us : List D), ds[i]? = some d → unp d = some us → PDTs X' T (setsD ρb is us) (Ms i) ifs (kp i) (Mt i)) : PTs X' ifs (tLT X'.w T ρb is unp ds Ms Mt kp) :=
  PTs.ex fun x => PTs.exB fun q => h _ _ _ q.1 q.2
theorem le_in {X' : Cx} {ρb : List (Option D)} {is : List Nat} {unp : D → Option (List D)} {Ms Mt : Nat → Mem} {kp : Nat → Bool} {el : Nat → D}
    (h : ∀ (i : Nat) (d : D) (us : List D), ds[i]? = some d → unp d = some us → kp i = true → PD X' T (setsD ρb is us) (Mt i) elt (el i) (Ms (i + 1))) : PE X' elt (tLE X'.w T ρb is unp ds Ms Mt kp el) :=
  PE.ex fun x => PE.exB fun q => h _ _ _ q.1 q.2.1 q.2.2
theorem pdts_nil {X : Cx} {ρ : List (Option D)} {M : Mem} : PDTs X T ρ M [] true M := pts_nil.imp fun σ H Q ⟨G, hs, sl, k⟩ => k G H (Step.refl _ _ _) hs
theorem pdts_one {X : Cx} {ρ : List (Option D)} {M M1 : Mem} {c : Expr} {b : Bool} (h : PDT X T ρ M c b M1) : PDTs X T ρ M [c] b M1 := pts_one h
/-- the blocks of a comprehension -/
abbrev Blks (X : Cx) (scope : Scope) (P : Cx → Prop) : Prop := ∀ (s : Shared) (H : Hp) (C : Addr) (cl : List (Str × Addr)) (fp : List Addr), P (X.blk s H scope (compEnvC scope cl C X.env) fp)
variable {scope : Scope} {g : TG} {is : List Nat} {unp : D → Option (List D)} {own : List (Str × Nat)}
/-- [elt for tg in iter if ..], by turns -/
theorem pd_lcI {Ms Mt : Nat → Mem} {kp : Nat → Bool} {el : Nat → D} (hi : PDI X T ρ M tg iter ds M1 ok) (hN : X.N.Nodup) (bk : BlkOk X.N X.env.scope scope own) (hg : Blks X scope fun X' => PG X' tg g) (ht : Tgt X.w g is unp) (hv : ∀ i ∈ is, i ∈ own.map (·.2))
    (h0 : Ms 0 = M1) (hok : ∀ i, i ≤ ds.length → ok (Ms i)) (hu : ∀ (i : Nat) (d : D), ds[i]? = some d → ∃ us, unp d = some us) (hno : ∀ i, i < ds.length → kp i = false → Mt i = Ms (i + 1)) (hz : ds.length ≤ 16000000)
    (htt : ∀ (i : Nat) (d : D) (us : List D), ds[i]? = some d → unp d = some us → Blks X scope fun X' => PDTs X' T (setsD (wipeD ρ (own.map (·.2))) is us) (Ms i) ifs (kp i) (Mt i))
    (hee : ∀ (i : Nat) (d : D) (us : List D), ds[i]? = some d → unp d = some us → kp i = true → Blks X scope fun X' => PD X' T (setsD (wipeD ρ (own.map (·.2))) is us) (Mt i) elt (el i) (Ms (i + 1)))
    (hc : X.calm = true := by rfl) (hs : ∀ x, foldedSetIterable iter X.env x = pure x := by intro _; rfl) : PD X T ρ M (.ListComp elt [⟨tg, iter, ifs, 0⟩] scope pos) (.lst (given ds.length kp el)) (Ms ds.length) :=
  (pe_lc hc hN hi bk hg (fun s H C cl fp => lt_in fun i d us h1 h2 => htt i d us h1 h2 s H C cl fp) (fun s H C cl fp => le_in fun i d us h1 h2 h3 => hee i d us h1 h2 h3 s H C cl fp) hs).imp fun σ H Q h => lc_in ht hv h0 hok hu hno hz σ H Q h
/-- y = [..], y a plain local -/
theorem pb_setLcI {Ms Mt : Nat → Mem} {kp : Nat → Bool} {el : Nat → D} {rest : List Stmt} {Nx : List (Option D) → Mem → Prop} {Rt : D → Mem → Prop} (i : Nat) {y : Str} {py spos : Pos} (hi : PDI X T ρ M tg iter ds M1 ok) (hN : X.N.Nodup) (bk : BlkOk X.N X.env.scope scope own) (hg : Blks X scope fun X' => PG X' tg g) (ht : Tgt X.w g is unp) (hv : ∀ i ∈ is, i ∈ own.map (·.2))
    (h0 : Ms 0 = M1) (hok : ∀ i, i ≤ ds.length → ok (Ms i)) (hu : ∀ (i : Nat) (d : D), ds[i]? = some d → ∃ us, unp d = some us) (hno : ∀ i, i < ds.length → kp i = false → Mt i = Ms (i + 1)) (hz : ds.length ≤ 16000000)
    (htt : ∀ (i : Nat) (d : D) (us : List D), ds[i]? = some d → unp d = some us → Blks X scope fun X' => PDTs X' T (setsD (wipeD ρ (own.map (·.2))) is us) (Ms i) ifs (kp i) (Mt i))
    (hee : ∀ (i : Nat) (d : D) (us : List D), ds[i]? = some d → unp d = some us → kp i = true → Blks X scope fun X' => PD X' T (setsD (wipeD ρ (own.map (·.2))) is us) (Mt i) elt (el i) (Ms (i + 1)))
    (k : PB X T (ρ.set i (some (.lst (given ds.length kp el)))) (Ms ds.length) rest Nx Rt)
    (hy : X.N[i]? = some y := by rfl) (hyl : X.env.scope.names.lookup y = some .local := by rfl) (hsw : swapsWith (.ListComp elt [⟨tg, iter, ifs, 0⟩] scope pos) (some (.Name y py)) spos.line X.env = pure true := by exact sw_true rfl rfl rfl (by decide +kernel))
    (hc : X.calm = true := by rfl) (hs : ∀ x, foldedSetIterable iter X.env x = pure x := by intro _; rfl) : PB X T ρ M (.Assign [.Name y py] (.ListComp elt [⟨tg, iter, ifs, 0⟩] scope pos) spos :: rest) Nx Rt :=
  pb_seq (Nx1 := fun ρ' M' => ρ' = ρ.set i (some (.lst (given ds.length kp el))) ∧ M' = Ms ds.length) (PS.imp (ps_setLc hc hN hy hyl hsw hi bk hg (fun s H C cl fp => lt_in fun i d us h1 h2 => htt i d us h1 h2 s H C cl fp) (fun s H C cl fp => le_in fun i d us h1 h2 h3 => hee i d us h1 h2 h3 s H C cl fp) hs) fun D σ H ⟨G, hs, sl, k1, k2⟩ => by
    refine lc_in (el := el) ht hv h0 hok hu hno hz σ H _ ⟨G, hs, sl, fun v G' H' st hs' r => ?_⟩
    exact k1 _ G' H' _ _ ⟨rfl, rfl⟩ st hs' ((sl.up st.up).set i r)) fun ρ' M' ⟨e1, e2⟩ => by subst e1; subst e2; exact k
end
end LW

set_option Elab.async false
set_option linter.all false
set_option maxRecDepth 100000
set_option maxHeartbeats 2000000
/-! LF: zip and enumerate over lists, tuples, texts in any mix. -/
namespace LW
open PySem PySem.Spec PyProof.Rows L2

theorem meets_enum1 {v : Value} {o : Obj} {H : Heap → Prop} (B : Begins v o H) :
    Meets (Builtin.«enumerate.__new__» ⟨[.type "enumerate", v], []⟩) (fun _ R s => H s.heap ∧
      R (.ok (.ret (.ref (s.heap.push o).objs.size))) { s with heap := (s.heap.push o).push { cls := .type "enumerate", data := .fields #[.none, .bool false, .ref s.heap.objs.size, rawInt 0, .none, .none] } }) :=
  .of_wp fun prog w A R s h => by
    obtain ⟨hp, g, d, tk, os⟩ := s; obtain ⟨h1, h⟩ := h
    have hsub := sub_enumerate
    have q1 : ∀ {A' : Around} {E : Value → Shared → Prop} {Q : Value → Shared → Prop}, Q (.ref hp.objs.size) ⟨hp.push o, g, d, tk, os⟩ → wpAny (model prog w) A' (pyIter v) Q E ⟨hp, g, d, tk, os⟩ :=
      fun q => B.iter prog w _ _ ⟨hp, g, d, tk, os⟩ _ h1 q
    wp_walk using q1
    refine wpAny_stack_any fun st => wpAny_pure ?_
    split
    · rename_i c _ _ _ _ _
      cases (c == Value.type "enumerate")
      · wp_walk using q1
        exact ⟨_, rfl, h⟩
      · wp_walk using q1
        exact ⟨_, rfl, h⟩
    · wp_walk using q1
      exact ⟨_, rfl, h⟩
theorem enum1_begins {prog : Program} {w : World} {A : Around} {E : Value → Shared → Prop} {s : Shared} {v : Value} {o : Obj} {H : Heap → Prop} {Q : Value → Shared → Prop} (B : Begins v o H) (h1 : H s.heap)
    (h : ∀ h', IsEnum h' (s.heap.objs.size + 1) s.heap.objs.size 0 .none → h'.get? s.heap.objs.size = some o → h'.objs.size = s.heap.objs.size + 2 →
      (∀ b o, s.heap.get? b = some o → h'.get? b = some o) → Q (.ref (s.heap.objs.size + 1)) { s with heap := h' }) :
    wpAny (model prog w) A (call (.type "enumerate") [v]) Q E s := by
  refine callType_new F.called_enumerate (by decide) (F.typeCall_enumerate_1 _) (F.newCall_enumerate_1 _) (fun obj => F.args_object_init_2 obj _) F.entry_enumerate_new
    (meets_enum1 B) ⟨h1, ?_⟩
  have hz : (s.heap.push o).objs.size = s.heap.objs.size + 1 := Heap.size_push ..
  show _ ∧ _
  rw [hz]
  have he : IsEnum ((s.heap.push o).push { cls := .type "enumerate", data := .fields #[.none, .bool false, .ref s.heap.objs.size, rawInt 0, .none, .none] }) (s.heap.objs.size + 1) s.heap.objs.size 0 .none := by
    have := Heap.get?_push_size (s.heap.push o) (o := { cls := .type "enumerate", data := .fields #[.none, .bool false, .ref s.heap.objs.size, rawInt 0, .none, .none] }) rfl
    rw [hz] at this; exact this
  refine ⟨⟨_, he, rfl⟩, h _ he (Heap.get?_push_of_some _ (Heap.get?_push_size _ B.free)) (by rw [Heap.size_push, hz]) fun b o x => Heap.get?_push_of_some _ (Heap.get?_push_of_some _ x)⟩

/-- what is walked by an iterator of its own -/
inductive Src where
  | lst (a : Addr) | tup (a : Addr) | str (x : Str) (t : Tok)
def Src.val : Src → Value
  | .lst a => .ref a
  | .tup a => .ref a
  | .str x t => .str x t
def Src.io : Src → Obj
  | .lst a => { cls := .type "list_iterator", data := .fields #[.ref a, .int 0 0] }
  | .tup a => { cls := .type "tuple_iterator", data := .fields #[.ref a, .int 0 0] }
  | .str x t => { cls := .type (strIterType x), data := .fields #[.str x t, .int 0 0] }
def Src.it : Src → Heap → Addr → Nat → Prop
  | .lst a, h, it, i => h.IsListIter it a i
  | .tup a, h, it, i => h.IsTupleIter it a i
  | .str x t, h, it, i => h.IsStrIter it (strIterType x) x t i
def Src.fp : Src → List Addr
  | .lst a => [a]
  | .tup a => [a]
  | .str _ _ => []
def signs (x : Str) : List V := x.cps.toList.map fun c => .str ⟨#[c]⟩
def Src.items (K : PySem.W.Frag) : Src → Hp → List V → Prop
  | .lst a, H, xs => SqL K H a xs
  | .tup a, H, xs => SqT K H a xs
  | .str x _, _, xs => xs = signs x
theorem Src.it_at {S : Src} {h h' : Heap} {it : Addr} {i : Nat} (x : S.it h it i) (k : ∀ o, h.get? it = some o → h'.get? it = some o) : S.it h' it i := by
  cases S with
  | lst a => exact Heap.IsListIter.at x k
  | tup a => exact Heap.IsTupleIter.at x k
  | str y t => obtain ⟨o, e, r⟩ := x; exact ⟨o, k o e, r⟩
theorem Src.it_obj {S : Src} {h : Heap} {it : Addr} {i : Nat} (x : S.it h it i) : ∃ o, h.get? it = some o ∧ ∀ v, o.data ≠ .cell v := by
  cases S with
  | lst a => obtain ⟨o, e, _, d⟩ := x; exact ⟨o, e, fun v q => by rw [d] at q; cases q⟩
  | tup a => obtain ⟨o, e, _, d⟩ := x; exact ⟨o, e, fun v q => by rw [d] at q; cases q⟩
  | str y t => obtain ⟨o, e, _, d⟩ := x; exact ⟨o, e, fun v q => by rw [d] at q; cases q⟩
theorem Src.it_zero {S : Src} {h : Heap} {it : Addr} (e : h.get? it = some S.io) : S.it h it 0 := by
  cases S with
  | lst a => exact ⟨_, e, rfl, rfl⟩
  | tup a => exact ⟨_, e, rfl, rfl⟩
  | str y t => exact ⟨_, e, rfl, rfl⟩
/-- what of it stands in the heap -/
def Src.still (S : Src) (us : List Value) (h : Heap) : Prop := match S with
  | .lst a => h.IsList a us.toArray
  | .tup a => h.IsTuple a us.toArray
  | .str x _ => True
theorem Src.still_at {S : Src} {us : List Value} {h h' : Heap} (x : S.still us h) (k : ∀ b ∈ S.fp, ∀ o, h.get? b = some o → h'.get? b = some o) : S.still us h' := by
  cases S with
  | lst a => exact Heap.IsList.at x fun o e => k a (List.mem_singleton.mpr rfl) o e
  | tup a => exact Heap.IsTuple.at x fun o e => k a (List.mem_singleton.mpr rfl) o e
  | str y t => trivial
theorem Src.fp_lt {S : Src} {us : List Value} {h : Heap} (x : S.still us h) : ∀ b ∈ S.fp, b < h.objs.size := fun b hb => by
  cases S with
  | lst a =>
    rw [List.mem_singleton.mp hb]
    exact Heap.lt_size (show h.get? a = some _ from x.choose_spec.1)
  | tup a =>
    rw [List.mem_singleton.mp hb]
    exact Heap.lt_size (show h.get? a = some _ from x.choose_spec.1)
  | str y t => cases hb
theorem Src.begins (S : Src) (us : List Value) : Begins S.val S.io (S.still us) := by
  cases S with
  | lst a => exact begins_list a us.toArray
  | tup a => exact begins_tuple a us.toArray
  | str x t => exact begins_text x t
section
variable {X : Cx} {pins : List (Addr × Obj)} {σ : L2.St} {H : Hp} {s : Shared}
theorem Src.vals {S : Src} {xs : List V} (I : Inv X pins σ H s) (h : S.items X.K H xs) : ∃ us, S.still us s.heap ∧ ((∀ x t, S ≠ .str x t) → Vals xs us) := by
  cases S with
  | lst a => obtain ⟨us, r, p, _⟩ := I.list h; exact ⟨us, p.isList, fun _ => r⟩
  | tup a => obtain ⟨us, r, p, _⟩ := I.tuple h; exact ⟨us, p, fun _ => r⟩
  | str x t => exact ⟨[], trivial, fun q => absurd rfl (q x t)⟩
theorem signs_get {x : Str} {i : Nat} {c : Nat} (h : x.cps[i]? = some c) : (signs x)[i]? = some (.str ⟨#[c]⟩) := by
  unfold signs
  rw [List.getElem?_map, Array.getElem?_toList, h]
  rfl
theorem signs_len (x : Str) : (signs x).length = x.cps.size := by simp [signs]
theorem Src.draws {A : Around} {S : Src} {xs : List V} {it : Addr} (I : Inv X pins σ H s) (h : S.items X.K H xs) (hh : A.handled = none) (hne : it ∉ S.fp) :
    ∃ us, S.still us s.heap ∧ Draws X.prog X.w A it (it :: S.fp) xs.length (fun i v => ∃ x, xs[i]? = some x ∧ RelV x v) (fun i h => S.it h it i ∧ S.still us h) := by
  cases S with
  | lst a =>
    obtain ⟨us, r, p, _⟩ := I.list h
    refine ⟨us, p.isList, ?_⟩
    have D := Draws.list (prog := X.prog) (w := X.w) hh it a (fun e => hne (by rw [e]; exact List.mem_singleton.mpr rfl)) us.toArray
    have el : us.toArray.size = xs.length := by rw [List.size_toArray, r.length]
    rw [el] at D
    refine ⟨D.live, D.frame, fun i s Q E hi st hQ => D.item i s Q E hi st fun x h' tk hp => hQ x h' tk ?_, D.done⟩
    have hl : i < xs.length := hi
    obtain ⟨u, hu, ru⟩ := r.get (List.getElem?_eq_getElem hl)
    have e1 : us.toArray[i]? = some x := hp
    rw [List.getElem?_toArray, hu] at e1
    cases e1
    exact ⟨_, List.getElem?_eq_getElem hl, ru⟩
  | tup a =>
    obtain ⟨us, r, p, _⟩ := I.tuple h
    refine ⟨us, p, ?_⟩
    have D := Draws.tuple (prog := X.prog) (w := X.w) hh it a (fun e => hne (by rw [e]; exact List.mem_singleton.mpr rfl)) us.toArray
    have el : us.toArray.size = xs.length := by rw [List.size_toArray, r.length]
    rw [el] at D
    refine ⟨D.live, D.frame, fun i s Q E hi st hQ => D.item i s Q E hi st fun x h' tk hp => hQ x h' tk ?_, D.done⟩
    have hl : i < xs.length := hi
    obtain ⟨u, hu, ru⟩ := r.get (List.getElem?_eq_getElem hl)
    have e1 : us.toArray[i]? = some x := hp
    rw [List.getElem?_toArray, hu] at e1
    cases e1
    exact ⟨_, List.getElem?_eq_getElem hl, ru⟩
  | str x t =>
    have e : xs = signs x := h
    subst e
    refine ⟨[], trivial, ?_⟩
    have D := Draws.text (prog := X.prog) (w := X.w) hh it x t
    rw [signs_len]
    refine ⟨fun i h st => D.live i h st.1, fun i h h' st k => ⟨D.frame i h h' st.1 fun b hb => k b hb, trivial⟩, fun i s Q E hi st hQ => D.item i s Q E hi st.1 fun v h' tk hp st' => hQ v h' tk ?_ ⟨st', trivial⟩, fun s Q E st => D.done s Q E st.1⟩
    obtain ⟨c, u, h1, rfl⟩ := hp
    exact ⟨_, signs_get h1, u, rfl⟩
theorem Src.items_inj {S : Src} {xs ys : List V} (I : Inv X pins σ H s) (h : S.items X.K H xs) (h' : S.items X.K H ys) : xs = ys := by
  cases S with
  | lst a => exact I.list_inj h h'
  | tup a => exact I.tuple_inj h h'
  | str x t => rw [show xs = signs x from h, show ys = signs x from h']
end
/-! ### zip -/
def ItzM (K : PySem.W.Frag) (S1 S2 : Src) : It :=
  ⟨fun i H => ∃ (xs ys : List V) (x y : V), S1.items K H xs ∧ S2.items K H ys ∧ xs[i]? = some x ∧ ys[i]? = some y,
    fun i H v H' => ∃ T x y, v = .ref T ∧ H T = none ∧ H' = upd H T (.tup [x, y]) ∧ (∀ xs, S1.items K H xs → xs[i]? = some x) ∧ ∀ ys, S2.items K H ys → ys[i]? = some y,
    fun i H => ∃ xs ys : List V, S1.items K H xs ∧ S2.items K H ys ∧ i ≤ xs.length ∧ i ≤ ys.length ∧ (i = xs.length ∨ i = ys.length)⟩
theorem turn_zipM {P : Program} {w : World} {K : PySem.W.Frag} {elts : List Expr} {kk : Nat} {tpos : Pos} {S1 S2 : Src} {z TI TO i1 i2 : Addr} (D : ZipSep2 z TI TO i1 i2 (i1 :: S1.fp) (i2 :: S2.fp)) (n1 : i1 ∉ S1.fp) (n2 : i2 ∉ S2.fp) :
    Turn P w K (.Tuple elts kk tpos) (ItzM K S1 S2) [z, TI, TO, i1, i2] z (fun i h => IsZip h z TI TO .none ∧ IsTupOf2 h TI (.ref i1) (.ref i2) ∧ (∃ x y, IsTupOf2 h TO x y) ∧ S1.it h i1 i ∧ S2.it h i2 i) where
  mem := by simp
  obj := fun i h st c hc => by
    obtain ⟨hz, hTI, ⟨x, y, hTO⟩, h1, h2⟩ := st
    have e' : c = z ∨ c = TI ∨ c = TO ∨ c = i1 ∨ c = i2 := by simpa using hc
    rcases e' with q | q | q | q | q
    · rw [q]; exact ⟨_, hz, fun v q => nomatch q⟩
    · rw [q]; exact ⟨_, hTI, fun v q => nomatch q⟩
    · rw [q]; exact ⟨_, hTO, fun v q => nomatch q⟩
    · rw [q]; exact Src.it_obj h1
    · rw [q]; exact Src.it_obj h2
  keep := fun i h h' st k => by
    obtain ⟨hz, hTI, ⟨x, y, hTO⟩, h1, h2⟩ := st
    exact ⟨k z (by simp) _ hz, k TI (by simp) _ hTI, ⟨x, y, k TO (by simp) _ hTO⟩, Src.it_at h1 fun o q => k i1 (by simp) o q, Src.it_at h2 fun o q => k i2 (by simp) o q⟩
  item := by
    intro X hP hw hK hc i pins s σ H E I hf st hg
    subst hP hw hK
    obtain ⟨hz, hTI, ⟨x0, y0, hTO⟩, h1, h2⟩ := st
    obtain ⟨xs, ys, x, y, hqx, hqy, hx, hy⟩ := hg
    have hh : X.A.in1.handled = none := I.ok.hd hc
    obtain ⟨us1, s1, D1⟩ := Src.draws (A := X.A.in1) I hqx hh n1
    obtain ⟨us2, s2, D2⟩ := Src.draws (A := X.A.in1) I hqy hh n2
    have l1 : i < xs.length := (List.getElem?_eq_some_iff.mp hx).1
    have l2 : i < ys.length := (List.getElem?_eq_some_iff.mp hy).1
    have hzl : z < s.heap.objs.size := Heap.lt_size hz
    refine wpAny_pyNext_zipD2_item D D1 D2 hz hTI hTO ⟨h1, s1⟩ ⟨h2, s2⟩ l1 l2 fun u u2 h' tk p1 p2 z' TO' st1' st2' hT hsz hk => ?_
    obtain ⟨x', ex, ru⟩ := p1
    obtain ⟨y', ey, ru2⟩ := p2
    rw [hx] at ex
    rw [hy] at ey
    cases ex
    cases ey
    refine ⟨_, rfl, wpAny_letOwnedTupleGo_zip (s := { s with heap := h', toks := tk }) z' fun h'' z'' sb => ?_⟩
    have hT2 : h''.get? s.heap.objs.size = some { cls := .type "tuple", data := .seq #[u, u2] } := (sb.2 _ (Nat.ne_of_gt hzl)).trans hT
    have new : ObjOk X.prog X.w (upd H s.heap.objs.size (.tup [x, y])) h'' s.heap.objs.size (.tup [x, y]) :=
      ⟨by show 2 ≤ sizeLine; decide, [u, u2], .cons ru (.cons ru2 .nil), ⟨_, hT2, rfl, _, rfl⟩⟩
    have I1 : Inv X pins σ (upd H s.heap.objs.size (.tup [x, y])) { s with heap := h'', toks := tk } :=
      I.turnedNew (t' := tk) (ch := [z, TI, TO, i1, i2]) (fun c o hb q => (sb.2 c (fun q' => hb (by simp [q']))).trans (hk c o (fun q' => hb (by simp [q'])) (fun q' => hb (by simp [q'])) (fun q' => hb (by simp [q'])) (fun q' => hb (by simp [q'])) q)) hf (Nat.le_refl _) new
    refine ⟨.ref s.heap.objs.size, _, I1, rfl, ⟨_, x, y, rfl, I.hok.fresh (Nat.le_refl _), rfl, fun l hl => by rw [Src.items_inj I hl hqx]; exact hx, fun l hl => by rw [Src.items_inj I hl hqy]; exact hy⟩, ⟨z'', ?_, ⟨u, u2, ?_⟩, ?_, ?_⟩, fun c hcm => ?_⟩
    · exact (sb.2 _ D.TIz).trans (hk _ _ D.TIz D.TITO D.TIi1 D.TIi2 hTI)
    · exact (sb.2 _ D.TOz).trans TO'
    · exact Src.it_at st1'.1 fun o q => (sb.2 _ D.zi1.symm).trans q
    · exact Src.it_at st2'.1 fun o q => (sb.2 _ D.zi2.symm).trans q
    · have hlt : c < s.heap.objs.size := by
        have e' : c = z ∨ c = TI ∨ c = TO ∨ c = i1 ∨ c = i2 := by simpa using hcm
        rcases e' with q | q | q | q | q
        · rw [q]; exact hzl
        · rw [q]; exact Heap.lt_size hTI
        · rw [q]; exact Heap.lt_size hTO
        · rw [q]; obtain ⟨_, e1, _⟩ := Src.it_obj h1; exact Heap.lt_size e1
        · rw [q]; obtain ⟨_, e2, _⟩ := Src.it_obj h2; exact Heap.lt_size e2
      rw [upd_ne (Nat.ne_of_lt hlt)]
      exact (hf c hcm).1
  done := by
    intro X hP hw hK hc i pins s σ H E I hf st hg
    subst hP hw hK
    obtain ⟨hz, hTI, ⟨x0, y0, hTO⟩, h1, h2⟩ := st
    obtain ⟨xs, ys, hqx, hqy, le1, le2, hend⟩ := hg
    have hh : X.A.in1.handled = none := I.ok.hd hc
    obtain ⟨us1, s1, D1⟩ := Src.draws (A := X.A.in1) I hqx hh n1
    obtain ⟨us2, s2, D2⟩ := Src.draws (A := X.A.in1) I hqy hh n2
    exact wpAny_pyNext_zipD2_end D D1 D2 hz hTI hTO ⟨h1, s1⟩ ⟨h2, s2⟩ le1 le2 hend fun h' tk hk => ⟨rfl, I.turnedL (t' := tk) (ch := [z, TI, TO, i1, i2]) (fun c o hb q =>
      hk c o (fun q' => hb (by simp [q'])) (fun q' => hb (by simp [q'])) (fun q' => hb (by simp [q'])) (fun q' => hb (by simp [q'])) q) hf⟩
  self := fun A i s Q E st h => wpAny_pyIter_zip st.1 h
/-- which source a value is -/
def SrcOf (K : PySem.W.Frag) (H : Hp) (x : V) (u : Value) (S : Src) (xs : List V) : Prop := RelV x u ∧ u = S.val ∧ S.items K H xs
def iZipM (K : PySem.W.Frag) (ta : TA) : TI := fun σ H R => ta σ H fun vs H1 => ∃ x y, vs = [x, y] ∧ ∀ u v : Value, RelV x u → RelV y v → ∃ S1 S2 xs ys, u = Src.val S1 ∧ v = Src.val S2 ∧ S1.items K H1 xs ∧ S2.items K H1 ys ∧ R (ItzM K S1 S2) H1
theorem pi_zipM {X : Cx} {e e2 : Expr} {ta : TA} {p pos tpos : Pos} {elts : List Expr} {kk : Nat} (hg : Gl X "zip") (hm : X.mg "zip" = none) (ha : PA X [e, e2] ta)
    (hs : starEach [e, e2] X.env = (false, eval e X.env) :: starEach [e2] X.env := by rfl) (hpl : (backTo pos (starEach [e2] X.env)).any (·.1) = false := by rfl) :
    PI X (.Tuple elts kk tpos) (.Call (.Name "zip" p) [e, e2] [] pos) (iZipM X.K ta) := by
  refine ⟨fun pins s σ H R I h => ?_⟩
  refine wpAny_Call_Name_kw (ld_blt I hg hm PyProof.Rows.boot_zip ?_)
  refine PyProof.Rows.callWith_type1 (thn (ha.run pos pins s σ H _ I h) fun us s1 ⟨vs, H1, I1, r1, q1⟩ => ?_) hs hpl
  obtain ⟨x, y, ex, q⟩ := q1
  subst ex
  cases r1 with
  | cons r rr =>
    cases rr with
    | cons r' rr =>
      cases rr
      obtain ⟨S1, S2, xs, ys, rfl, rfl, i1, i2, q⟩ := q _ _ r r'
      obtain ⟨us1, t1, _⟩ := Src.vals I1 i1
      obtain ⟨us2, t2, _⟩ := Src.vals I1 i2
      refine zip_begins2 (Src.begins S1 us1) (Src.begins S2 us2) t1 t2 fun h' hz hTI hTO h1 h2 hsz hk => wpAny_pyIter_zip hz ?_
      have I2 : Inv X pins σ H1 { s1 with heap := h' } := I1.kept (t' := s1.toks) hk
      have lt1 := Src.fp_lt t1
      have lt2 := Src.fp_lt t2
      refine ⟨s1.heap.objs.size + 4, [s1.heap.objs.size + 4, s1.heap.objs.size + 2, s1.heap.objs.size + 3, s1.heap.objs.size, s1.heap.objs.size + 1], _, _, H1, rfl, I2, turn_zipM (zip_sep2 lt1 lt2) (fun q => Nat.lt_irrefl _ (lt1 _ q)) (fun q => by
        have z := lt2 _ q
        exact absurd z (Nat.not_lt_of_le (Nat.le_succ _))), ⟨hz, hTI, ⟨_, _, hTO⟩, Src.it_zero h1, Src.it_zero h2⟩, fun c hcm => ?_, q⟩
      have e' : c = s1.heap.objs.size + 4 ∨ c = s1.heap.objs.size + 2 ∨ c = s1.heap.objs.size + 3 ∨ c = s1.heap.objs.size ∨ c = s1.heap.objs.size + 1 := by simpa using hcm
      have hle : s1.heap.objs.size ≤ c := by
        rcases e' with z | z | z | z | z
        · rw [z]; exact Nat.le_add_right _ _
        · rw [z]; exact Nat.le_add_right _ _
        · rw [z]; exact Nat.le_add_right _ _
        · rw [z]; exact Nat.le_refl _
        · rw [z]; exact Nat.le_add_right _ _
      exact I1.fpOk hle (I1.hok.fresh hle)
/-! ### enumerate -/
def IteM (K : PySem.W.Frag) (S : Src) : It :=
  ⟨fun i H => ∃ (xs : List V) (x : V), S.items K H xs ∧ xs[i]? = some x, fun i H v H' => ∃ T x, v = .ref T ∧ H T = none ∧ H' = upd H T (.tup [.int (i : Nat), x]) ∧ ∀ xs, S.items K H xs → xs[i]? = some x, fun i H => ∃ xs : List V, S.items K H xs ∧ i = xs.length⟩
theorem turn_enumM {P : Program} {w : World} {K : PySem.W.Frag} {elts : List Expr} {kk : Nat} {tpos : Pos} {S : Src} {e it : Addr} (hne : e ≠ it) (nf : e ∉ S.fp) (ni : it ∉ S.fp) :
    Turn P w K (.Tuple elts kk tpos) (IteM K S) [e, it] e (fun i h => (∃ old, IsEnum h e it ((i : Nat) : Int) old) ∧ S.it h it i) where
  mem := by simp
  obj := fun i h st b hb => by
    obtain ⟨⟨old, he⟩, hi⟩ := st
    have e' : b = e ∨ b = it := by simpa using hb
    rcases e' with z | z
    · rw [z]; exact ⟨_, he, fun v q => nomatch q⟩
    · rw [z]; exact Src.it_obj hi
  keep := fun i h h' st k => let ⟨⟨old, he⟩, hi⟩ := st; ⟨⟨old, k e (by simp) _ he⟩, Src.it_at hi fun o q => k it (by simp) o q⟩
  item := by
    intro X hP hw hK hc i pins s σ H E I hf st hg
    subst hP hw hK
    obtain ⟨⟨old, he⟩, hit⟩ := st
    obtain ⟨xs, x, hq, hx⟩ := hg
    have hh : X.A.in1.handled = none := I.ok.hd hc
    obtain ⟨us, s1, D1⟩ := Src.draws (A := X.A.in1) I hq hh ni
    have hl : i < xs.length := (List.getElem?_eq_some_iff.mp hx).1
    have hel : e < s.heap.objs.size := Heap.lt_size he
    have hil : it < s.heap.objs.size := by obtain ⟨_, q, _⟩ := Src.it_obj hit; exact Heap.lt_size q
    refine wpAny_pyNext_enum_itemC D1 he ⟨hit, s1⟩ hl hne (fun q => by rcases List.mem_cons.mp q with z | z; exact hne z; exact nf z) fun u h' tk p ho st' hT hsz hk => ?_
    obtain ⟨x', ex, ru⟩ := p
    rw [hx] at ex
    cases ex
    refine ⟨_, rfl, wpAny_letOwnedTupleGo_enum (s := { s with heap := h', toks := tk + 1 }) ho fun h'' he' sb => ?_⟩
    have hT2 : h''.get? s.heap.objs.size = some { cls := .type "tuple", data := .seq #[.int i tk, u] } := (sb.2 _ (Nat.ne_of_gt hel)).trans hT
    have new : ObjOk X.prog X.w (upd H s.heap.objs.size (.tup [.int (i : Nat), x])) h'' s.heap.objs.size (.tup [.int (i : Nat), x]) :=
      ⟨by show 2 ≤ sizeLine; decide, [.int i tk, u], .cons ⟨_, rfl⟩ (.cons ru .nil), ⟨_, hT2, rfl, _, rfl⟩⟩
    have I1 : Inv X pins σ (upd H s.heap.objs.size (.tup [.int (i : Nat), x])) { s with heap := h'', toks := tk + 1 } :=
      I.turnedNew (ch := [e, it]) (fun b ob hb q => (sb.2 b (fun z => hb (by simp [z]))).trans (hk b ob (fun z => hb (by simp [z])) (fun z => hb (by simp [z])) q)) hf (Nat.le_refl _) new
    refine ⟨.ref s.heap.objs.size, _, I1, rfl, ⟨_, x, rfl, I.hok.fresh (Nat.le_refl _), rfl, fun ys hy => by rw [Src.items_inj I hy hq]; exact hx⟩, ⟨⟨u, ?_⟩, Src.it_at st'.1 fun o q => (sb.2 it (Ne.symm hne)).trans q⟩, fun b hb => ?_⟩
    · have e1 : ((i + 1 : Nat) : Int) = (i : Int) + 1 := by omega
      rw [e1]; exact he'
    · have hb' : b < s.heap.objs.size := by
        have e' : b = e ∨ b = it := by simpa using hb
        rcases e' with z | z
        · rw [z]; exact hel
        · rw [z]; exact hil
      rw [upd_ne (Nat.ne_of_lt hb')]
      exact (hf b hb).1
  done := by
    intro X hP hw hK hc i pins s σ H E I hf st hg
    subst hP hw hK
    obtain ⟨⟨old, he⟩, hit⟩ := st
    obtain ⟨xs, hq, hx⟩ := hg
    have hh : X.A.in1.handled = none := I.ok.hd hc
    obtain ⟨us, s1, D1⟩ := Src.draws (A := X.A.in1) I hq hh ni
    obtain ⟨f0, f1, f2, f3, f4, f5⟩ := hf it (by simp)
    subst hx
    exact wpAny_pyNext_enum_endD D1 he ⟨hit, s1⟩ fun h' eb => ⟨rfl, I.turned (t' := s.toks) (fun b o hb q => eb b o hb q) f0 f1 f3 f4 f5⟩
  self := fun A i s Q E st h => let ⟨⟨_, he⟩, _⟩ := st; wpAny_pyIter_enum he h
def iEnumM (K : PySem.W.Frag) (ta : TA) : TI := fun σ H R => ta σ H fun vs H1 => ∃ x, vs = [x] ∧ ∀ u : Value, RelV x u → ∃ S xs, u = Src.val S ∧ S.items K H1 xs ∧ R (IteM K S) H1
theorem pi_enumM {X : Cx} {e : Expr} {ta : TA} {p pos tpos : Pos} {elts : List Expr} {kk : Nat} (hg : Gl X "enumerate") (hm : X.mg "enumerate" = none) (ha : PA X [e] ta) (hs : starEach [e] X.env = [(false, eval e X.env)] := by rfl) :
    PI X (.Tuple elts kk tpos) (.Call (.Name "enumerate" p) [e] [] pos) (iEnumM X.K ta) := by
  refine ⟨fun pins s σ H R I h => ?_⟩
  refine wpAny_Call_Name_kw (ld_blt I hg hm boot_enumerate ?_)
  refine PyProof.Rows.callWith_type1 (thn (ha.run pos pins s σ H _ I h) fun us s1 ⟨vs, H1, I1, r1, q1⟩ => ?_) hs rfl
  obtain ⟨x, ex, q⟩ := q1
  subst ex
  cases r1 with
  | cons r rr =>
    cases rr
    obtain ⟨S, xs, rfl, i1, q⟩ := q _ r
    obtain ⟨us1, t1, _⟩ := Src.vals I1 i1
    have lt1 := Src.fp_lt t1
    refine enum1_begins (Src.begins S us1) t1 fun h' he hit hsz hk => wpAny_pyIter_enum he ?_
    have I2 : Inv X pins σ H1 { s1 with heap := h' } := I1.kept (t' := s1.toks) hk
    refine ⟨s1.heap.objs.size + 1, [s1.heap.objs.size + 1, s1.heap.objs.size], _, _, H1, rfl, I2, turn_enumM (e := s1.heap.objs.size + 1) (it := s1.heap.objs.size) (Nat.succ_ne_self _) (fun q => absurd (lt1 _ q) (Nat.not_lt_of_le (Nat.le_succ _))) (fun q => Nat.lt_irrefl _ (lt1 _ q)), ⟨⟨.none, he⟩, Src.it_zero hit⟩, fun b hb => ?_, q⟩
    have e' : b = s1.heap.objs.size + 1 ∨ b = s1.heap.objs.size := by simpa using hb
    have hle : s1.heap.objs.size ≤ b := by
      rcases e' with z | z
      · rw [z]; exact Nat.le_add_right _ _
      · rw [z]; exact Nat.le_refl _
    exact I1.fpOk hle (I1.hok.fresh hle)
/-! ### by data -/
/-- d is walked as ds -/
inductive SV (M : Mem) : D → List D → Prop
  | dat {ds : List D} : SV M (.lst ds) ds
  | own {p : Addr} {ds : List D} (j : Nat) (h : M[j]? = some (some (p, .lst ds)) := by rfl) : SV M (.ref p) ds
  | tup {ds : List D} : SV M (.tup ds) ds
  | str {x : Str} : SV M (.str x) (x.cps.toList.map fun c => .str ⟨#[c]⟩)
theorem DtL.signs {w : World} {G : Hp} (l : List Nat) : DtL w G (l.map fun c => V.str ⟨#[c]⟩) (l.map fun c => D.str ⟨#[c]⟩) := by
  induction l with
  | nil => exact .nil
  | cons c l ih => exact .cons (.str _) ih
/-- the source, from the data: the same at each state that follows -/
theorem SV.src {w : World} {T : List Addr} {K : PySem.W.Frag} {G H : Hp} {M : Mem} {v : V} {u : Value} {d : D} {ds : List D} (l : SV M d ds) (hs : HS w T G H M) (r : Dt w G v d) (ru : RelV v u) :
    ∃ S : Src, u = S.val ∧ ∃ xs, S.items K H xs ∧ DtL w G xs ds ∧ ∀ (G2 H2 : Hp) (M2 : Mem), (∀ a o, G a = some o → G2 a = some o) → HS w T G2 H2 M2 → SV M2 d ds → ∃ ys, S.items K H2 ys ∧ DtL w G2 ys ds := by
  cases l with
  | dat =>
    cases r with
    | lst e r =>
      rename_i a xs
      refine ⟨.lst a, ru, xs, SqL.of (hs.sub _ _ e), r, fun G2 H2 M2 up hs2 _ => ⟨xs, SqL.of (hs2.sub _ _ (up _ _ e)), r.up up⟩⟩
  | own j h =>
    rename_i p
    cases r
    obtain ⟨_, xs, e, r⟩ := hs.mem _ _ (mem_of h)
    refine ⟨.lst p, ru, xs, SqL.of e, r, fun G2 H2 M2 up hs2 l2 => ?_⟩
    cases l2 with
    | own j2 h2 =>
      obtain ⟨_, ys, e2, r2⟩ := hs2.mem _ _ (mem_of h2)
      exact ⟨ys, SqL.of e2, r2⟩
  | tup =>
    cases r with
    | tup e r =>
      rename_i a xs
      refine ⟨.tup a, ru, xs, SqT.of (hs.sub _ _ e), r, fun G2 H2 M2 up hs2 _ => ⟨xs, SqT.of (hs2.sub _ _ (up _ _ e)), r.up up⟩⟩
  | str =>
    cases r
    obtain ⟨t, rfl⟩ := ru
    rename_i x
    exact ⟨.str x t, rfl, signs x, rfl, DtL.signs _, fun G2 H2 M2 _ _ _ => ⟨signs x, rfl, DtL.signs _⟩⟩
def zipD : List D → List D → List D
  | a :: as, b :: bs => .tup [a, b] :: zipD as bs
  | _, _ => []
theorem zipD_len : ∀ (as bs : List D), (zipD as bs).length = min as.length bs.length
  | [], _ => by simp [zipD]
  | _ :: _, [] => by simp [zipD]
  | a :: as, b :: bs => by
    simp only [zipD, List.length_cons, zipD_len as bs]
    omega
theorem zipD_get : ∀ {as bs : List D} {i : Nat} {d : D}, (zipD as bs)[i]? = some d → ∃ a b, as[i]? = some a ∧ bs[i]? = some b ∧ d = .tup [a, b]
  | [], bs, i, d, h => by simp [zipD] at h
  | a :: as, [], i, d, h => by simp [zipD] at h
  | a :: as, b :: bs, 0, d, h => by simp [zipD] at h; exact ⟨a, b, rfl, rfl, h.symm⟩
  | a :: as, b :: bs, i + 1, d, h => by
    simp [zipD] at h
    obtain ⟨x, y, h1, h2, h3⟩ := zipD_get h
    exact ⟨x, y, by simpa using h1, by simpa using h2, h3⟩
def enumFromD : Nat → List D → List D
  | _, [] => []
  | n, d :: ds => .tup [.int (n : Nat), d] :: enumFromD (n + 1) ds
theorem enumFromD_len : ∀ (n : Nat) (ds : List D), (enumFromD n ds).length = ds.length
  | _, [] => rfl
  | n, d :: ds => by simp only [enumFromD, List.length_cons, enumFromD_len (n + 1) ds]
theorem enumFromD_get : ∀ {n : Nat} {ds : List D} {i : Nat} {d : D}, (enumFromD n ds)[i]? = some d → ∃ a, ds[i]? = some a ∧ d = .tup [.int ((n + i : Nat) : Int), a]
  | n, [], i, d, h => by simp [enumFromD] at h
  | n, x :: ds, 0, d, h => by simp [enumFromD] at h; exact ⟨x, rfl, h.symm⟩
  | n, x :: ds, i + 1, d, h => by
    simp [enumFromD] at h
    obtain ⟨a, h1, h2⟩ := enumFromD_get h
    refine ⟨a, by simpa using h1, ?_⟩
    rw [h2, Nat.add_assoc, Nat.add_comm 1 i]
section
variable {X : Cx} {T : List Addr} {ρ : List (Option D)} {M M1 M2 : Mem} {da db : D} {a b e tg : Expr} {pos p tpos : Pos} {as bs : List D} {elts : List Expr} {kk : Nat}
theorem pdi_zip (l1 : SV M2 da as) (l2 : SV M2 db bs) (hm : X.mg "zip" = none) (ha : PD X T ρ M a da M1) (hb : PD X T ρ M1 b db M2) (hg : Gl X "zip" := by rfl) (hs : starEach [a, b] X.env = (false, eval a X.env) :: starEach [b] X.env := by rfl) (hs2 : starEach [b] X.env = (false, eval b X.env) :: starEach [] X.env := by rfl)
    (hpl : (backTo pos (starEach [b] X.env)).any (·.1) = false := by rfl) : PDI X T ρ M (.Tuple elts kk tpos) (.Call (.Name "zip" p) [a, b] [] pos) (zipD as bs) M2 (fun m => SV m da as ∧ SV m db bs) :=
  (pi_zipM hg hm (pdl_cons ha (pdl_1 hb hs2) hs) hs hpl).imp fun σ H R ⟨G, hs, sl, k⟩ => ⟨G, hs, sl, fun vs G1 H1 st hs1 r => by
    obtain ⟨v, u, rfl, r1, r2⟩ := r.two
    refine ⟨v, u, rfl, fun w1 w2 rw1 rw2 => ?_⟩
    obtain ⟨S1, e1, xs, j1, dd1, k1⟩ := l1.src (K := X.K) hs1 r1 rw1
    obtain ⟨S2, e2, ys, j2, dd2, k2⟩ := l2.src (K := X.K) hs1 r2 rw2
    refine ⟨S1, S2, xs, ys, e1, e2, j1, j2, k _ G1 H1 st hs1 ⟨fun i G2 H2 M2 hi st2 hs2 hok => ?_, fun i G2 H2 M2 x H' d st2 hs2 hok hd hy => ?_, fun G2 H2 M2 st2 hs2 hok => ?_⟩⟩
    · obtain ⟨xs2, a1, b1⟩ := k1 G2 H2 M2 st2.up hs2 hok.1
      obtain ⟨ys2, a2, b2⟩ := k2 G2 H2 M2 st2.up hs2 hok.2
      rw [zipD_len] at hi
      have h1 : i < xs2.length := by rw [b1.length]; omega
      have h2 : i < ys2.length := by rw [b2.length]; omega
      exact ⟨xs2, ys2, xs2[i], ys2[i], a1, a2, List.getElem?_eq_getElem h1, List.getElem?_eq_getElem h2⟩
    · obtain ⟨xs2, a1, b1⟩ := k1 G2 H2 M2 st2.up hs2 hok.1
      obtain ⟨ys2, a2, b2⟩ := k2 G2 H2 M2 st2.up hs2 hok.2
      obtain ⟨p, x1, y1, rfl, hp, rfl, g1, g2⟩ := hy
      obtain ⟨da', db', q1, q2, rfl⟩ := zipD_get hd
      obtain ⟨v1, w1', r1'⟩ := b1.get q1
      obtain ⟨v2, w2', r2'⟩ := b2.get q2
      have f1 := g1 xs2 a1
      have f2 := g2 ys2 a2
      rw [w1'] at f1
      rw [w2'] at f2
      cases f1
      cases f2
      exact ⟨_, Step.newI hs2 hp, hs2.new hp (fun _ z => by cases z), .tup upd_same (.cons (r1'.up (up_upd (hs2.freshG hp))) (.cons (r2'.up (up_upd (hs2.freshG hp))) .nil))⟩
    · obtain ⟨xs2, a1, b1⟩ := k1 G2 H2 M2 st2.up hs2 hok.1
      obtain ⟨ys2, a2, b2⟩ := k2 G2 H2 M2 st2.up hs2 hok.2
      have e1 := b1.length
      have e2 := b2.length
      refine ⟨xs2, ys2, a1, a2, ?_, ?_, ?_⟩ <;> rw [zipD_len] <;> omega⟩
theorem pdi_enum (l1 : SV M1 da as) (hm : X.mg "enumerate" = none) (ha : PD X T ρ M a da M1) (hg : Gl X "enumerate" := by rfl) (hs : starEach [a] X.env = (false, eval a X.env) :: starEach [] X.env := by rfl) :
    PDI X T ρ M (.Tuple elts kk tpos) (.Call (.Name "enumerate" p) [a] [] pos) (enumFromD 0 as) M1 (fun m => SV m da as) :=
  (pi_enumM hg hm (pdl_1 ha hs) hs).imp fun σ H R ⟨G, hs, sl, k⟩ => ⟨G, hs, sl, fun vs G1 H1 st hs1 r => by
    obtain ⟨v, rfl, r1⟩ := r.one
    refine ⟨v, rfl, fun w1 rw1 => ?_⟩
    obtain ⟨S1, e1, xs, j1, dd1, k1⟩ := l1.src (K := X.K) hs1 r1 rw1
    refine ⟨S1, xs, e1, j1, k _ G1 H1 st hs1 ⟨fun i G2 H2 M2 hi st2 hs2 hok => ?_, fun i G2 H2 M2 x H' d st2 hs2 hok hd hy => ?_, fun G2 H2 M2 st2 hs2 hok => ?_⟩⟩
    · obtain ⟨xs2, a1, b1⟩ := k1 G2 H2 M2 st2.up hs2 hok
      rw [enumFromD_len] at hi
      have h1 : i < xs2.length := by rw [b1.length]; omega
      exact ⟨xs2, xs2[i], a1, List.getElem?_eq_getElem h1⟩
    · obtain ⟨xs2, a1, b1⟩ := k1 G2 H2 M2 st2.up hs2 hok
      obtain ⟨p, x1, rfl, hp, rfl, g1⟩ := hy
      obtain ⟨da', q1, rfl⟩ := enumFromD_get hd
      obtain ⟨v1, w1', r1'⟩ := b1.get q1
      have f1 := g1 xs2 a1
      rw [w1'] at f1
      cases f1
      rw [Nat.zero_add]
      exact ⟨_, Step.newI hs2 hp, hs2.new hp (fun _ z => by cases z), .tup upd_same (.cons (.int _) (.cons (r1'.up (up_upd (hs2.freshG hp))) .nil))⟩
    · obtain ⟨xs2, a1, b1⟩ := k1 G2 H2 M2 st2.up hs2 hok
      exact ⟨xs2, a1, by rw [enumFromD_len, b1.length]⟩⟩
/-- a text, sign by sign -/
theorem pdi_str {x : Str} (h : PD X T ρ M e (.str x) M1) : PDI X T ρ M tg e (x.cps.toList.map fun c => D.str ⟨#[c]⟩) M1 (fun _ => True) :=
  (pi_str h).imp fun σ H R ⟨G, hs, sl, k⟩ => ⟨G, hs, sl, fun v G1 H1 st hs1 r => by
    cases r
    refine ⟨x, rfl, k _ G1 H1 st hs1 ⟨fun i G2 H2 M2 hi st2 hs2 hok => by show i < x.cps.size; simpa using hi, fun i G2 H2 M2 y H' d st2 hs2 hok hd hy => ?_, fun G2 H2 M2 st2 hs2 hok => by show x.cps.size ≤ _; simp⟩⟩
    obtain ⟨rfl, c, hc, rfl⟩ := hy
    rw [List.getElem?_map, Array.getElem?_toList, hc] at hd
    cases hd
    exact ⟨G2, Step.refl _ _ _, hs2, .str _⟩⟩
end
end LW

set_option Elab.async false
set_option linter.all false
set_option maxRecDepth 100000
set_option maxHeartbeats 4000000
/-! LG: generator expressions whose element may be anything, walked by a builtin. -/
namespace LW
open PySem PySem.Spec PyProof.Rows L2
open Sem (wp)
/-- a generator expression's scope beside the def's names N -/
structure GenB (N : List Str) (sc scope : Scope) (own : List (Str × Nat)) : Prop where
  kind : scope.kind = .function
  co : scope.isCoroutine = false
  uniq : ∀ y ∈ scope.names, scope.names.lookup y.1 = some y.2
  ix : ∀ p ∈ own, N[p.2]? = some p.1
  free : ∀ y ∈ scope.names, y.2 = .free → sc.names.lookup y.1 = some .cell ∨ sc.names.lookup y.1 = some .free
  own : ∀ y ∈ scope.names, y.2 = .local → y.1 ∈ own.map (·.1) ∨ y.1 ∉ N
  cell : ∀ y ∈ scope.names, y.2 ≠ .cell
  dot : scope.names.lookup (".0" : Str) = some NameKind.local
def genBC (N : List Str) (sc scope : Scope) (own : List (Str × Nat)) : Bool :=
  (match scope.kind with | .function => true | _ => false) && (!scope.isCoroutine) && (scope.names.all fun y => decide (scope.names.lookup y.1 = some y.2)) && (own.all fun p => decide (N[p.2]? = some p.1)) &&
    (scope.names.all fun y => match y.2 with
      | .free => (match sc.names.lookup y.1 with | some .cell => true | some .free => true | _ => false)
      | .local => decide (y.1 ∈ own.map (·.1)) || decide (y.1 ∉ N)
      | .cell => false
      | _ => true) && decide (scope.names.lookup (".0" : Str) = some NameKind.local)
theorem genB_by {N : List Str} {sc scope : Scope} {own : List (Str × Nat)} (h : genBC N sc scope own = true) : GenB N sc scope own := by
  unfold genBC at h
  simp only [Bool.and_eq_true] at h
  obtain ⟨⟨⟨⟨⟨h1, h2⟩, h3⟩, h4⟩, h5⟩, h6⟩ := h
  rw [List.all_eq_true] at h3 h4 h5
  refine ⟨?_, by simpa using h2, fun y hy => of_decide_eq_true (h3 y hy), fun p hp => of_decide_eq_true (h4 p hp), fun y hy e => ?_, fun y hy e => ?_, fun y hy e => ?_, of_decide_eq_true h6⟩
  · split at h1
    · assumption
    · cases h1
  · have q := h5 y hy
    rw [e] at q
    simp only at q
    split at q
    · rename_i z; exact .inl z
    · rename_i z; exact .inr z
    · cases q
  · have q := h5 y hy
    rw [e] at q
    simp only [Bool.or_eq_true, decide_eq_true_eq] at q
    exact q
  · have q := h5 y hy
    rw [e] at q
    cases q
/-- the context of the generator's block -/
abbrev gcx (X : Cx) (Ag : Around) (s : Shared) (H : Hp) (cenv : Env) (fp : List Addr) (pn : List (Addr × Obj)) : Cx :=
  { X with A := Ag, s_0 := s, H_0 := H, env := cenv, outer := X.stack, stack := cenv :: X.stack, ex := fp, fn := fun _ => false, pn := pn, xe := fun _ _ => False, calm := true }
theorem over_comp {A : Around} {elt tg iter : Expr} {ifs : List Expr} {scope : Scope} {pos : Pos} {it acc : Value} {env : Env} : A.over (.compLoop (.GeneratorExp elt [⟨tg, iter, ifs, 0⟩] scope pos) 0 it acc env) [] = A.deeper env := by
  first
    | rfl
    | (obtain ⟨hd, d, fr, gs, u⟩ := A; simp [Around.over, Around.deeper, marksOver, frameCount, unitsOf, envsOf, guardsOf, pushEnvs, pushGuards, Code.envs, Code.env?, Code.isFrame, Code.guards, Code.isGuard, Code.weight, Code.frames, Code.isCreation, Code.isCaller, Code.cUnits])
theorem over_compS {A : Around} {elt tg iter : Expr} {ifs : List Expr} {scope : Scope} {pos : Pos} {it acc : Value} {env : Env} : A.over (.compStart (.GeneratorExp elt [⟨tg, iter, ifs, 0⟩] scope pos) 0 it acc env) [] = A.deeper env := by
  first
    | rfl
    | (obtain ⟨hd, d, fr, gs, u⟩ := A; simp [Around.over, Around.deeper, marksOver, frameCount, unitsOf, envsOf, guardsOf, pushEnvs, pushGuards, Code.envs, Code.env?, Code.isFrame, Code.guards, Code.isGuard, Code.weight, Code.frames, Code.isCreation, Code.isCaller, Code.cUnits])
section
variable {X : Cx} {pins : List (Addr × Obj)} {σ : L2.St} {H : Hp} {s : Shared}
/-- the block at its start: its frame's object is new, the generator's object behind it -/
theorem gen_start {scope : Scope} {own : List (Str × Nat)} {fp : List Addr} {Ag : Around} {code itv : Value} {h5 : Heap} {og : Obj} {gs : Array GenState} {tk : Nat} (I : Inv X pins σ H s) (ok : GenB X.N X.env.scope scope own) (hN : X.N.Nodup) (hfp : ∀ b ∈ fp, FpOk X pins H b ∧ b < s.heap.objs.size)
    (hd : Ag.handled = none) (hfr : Ag.frames = some (genEnv scope (cloFrom X.env.cells scope.names []) s.heap.objs.size code builtinsNs X.env :: X.stack))
    (hn : h5.Ns s.heap.objs.size (fun y => if y = (".0" : Str) then some itv else none)) (hk : ∀ b o, s.heap.get? b = some o → h5.get? b = some o) (hz : h5.objs.size = s.heap.objs.size + 2) (hog : h5.get? (s.heap.objs.size + 1) = some og) (hoc : ∀ v, og.data ≠ .cell v) (hg : AllBare gs) :
    Inv (gcx X Ag s H (genEnv scope (cloFrom X.env.cells scope.names []) s.heap.objs.size code builtinsNs X.env) fp [(s.heap.objs.size + 1, og)]) [] (wipe σ (own.map (·.2))) H { s with heap := h5, gens := gs, toks := tk } := by
  have hfree : ∀ y ∈ scope.names, y.2 = .free → ∃ c, X.env.cells.lookup y.1 = some c := fun y hy e => by
    rcases ok.free y hy e with k | k
    · exact I.ok.has _ (.inl k)
    · exact I.ok.has _ (.inr k)
  generalize hcenv : genEnv scope (cloFrom X.env.cells scope.names []) s.heap.objs.size code builtinsNs X.env = cenv at hfr
  have hL : cenv.locals = s.heap.objs.size := by rw [← hcenv]; rfl
  have hcl : cenv.cells = cloFrom X.env.cells scope.names [] := by rw [← hcenv]; rfl
  have hsc : cenv.scope = scope := by rw [← hcenv]; rfl
  have cm : ∀ {y c}, (y, c) ∈ cloFrom X.env.cells scope.names [] → X.env.cells.lookup y = some c ∧ c < s.heap.objs.size := fun {y c} hm => by
    rcases cloFrom_mem hm with hm | ⟨h1, rfl⟩
    · cases hm
    · obtain ⟨c, hc⟩ := hfree _ h1 rfl
      rw [hc]
      obtain ⟨w, z⟩ := I.cell _ _ hc
      exact ⟨rfl, z.lt⟩
  have mem : ∀ {y c}, cenv.cells.lookup y = some c → X.env.cells.lookup y = some c ∧ c < s.heap.objs.size := fun {y c} e => by
    rw [hcl] at e
    exact cm (PySem.mem_of_lookup e)
  have look : ∀ {y}, scope.names.lookup y = some .free → ∃ c, cenv.cells.lookup y = some c ∧ X.env.cells.lookup y = some c := fun {y} hl => by
    have hy : (y, NameKind.free) ∈ scope.names := PySem.mem_of_lookup hl
    obtain ⟨c', e'⟩ := mem_lookup (cloFrom_has (cells := X.env.cells) (acc := []) hy)
    rw [← hcl] at e'
    exact ⟨c', e', (mem e').1⟩
  have okB : (gcx X Ag s H cenv fp [(s.heap.objs.size + 1, og)]).Ok := by
    refine ⟨I.ok.mod, by show cenv.scope.kind = _; rw [hsc]; exact ok.kind, by show cenv.globals = _; rw [← hcenv]; exact I.ok.glob, by show cenv.builtins = _; rw [← hcenv]; rfl, by show s.heap.objs.size ≤ cenv.locals; rw [hL]; exact Nat.le_refl _,
      fun y z c e1 e2 => ?_, fun y hy => ?_, fun y c z e => ?_, fun _ => hd, hfr, .inr ⟨rfl, ?_⟩, fun b hb => ⟨?_, fun y c e z => ?_⟩, I.bs, Nat.le_trans I.ok.bsz I.sz, fun b o e hb => ?_, fun b hb z => ?_, I.stack, I.stkFree⟩
    · have e1 : cenv.cells.lookup y = some c := e1
      have e2 : cenv.cells.lookup z = some c := e2
      exact I.ok.inj y z c (mem e1).1 (mem e2).1
    · show ∃ c, cenv.cells.lookup y = some c
      rcases hy with hy | hy
      · have hy : scope.names.lookup y = some .cell := by rw [← hsc]; exact hy
        exact absurd rfl (ok.cell _ (PySem.mem_of_lookup hy))
      · have hy : scope.names.lookup y = some .free := by rw [← hsc]; exact hy
        obtain ⟨c, h1, _⟩ := look hy
        exact ⟨c, h1⟩
    · cases z
    · show cenv.frame = some cenv.locals
      rw [← hcenv]
      rfl
    · show b ≠ cenv.locals
      rw [hL]; exact Nat.ne_of_lt (hfp b hb).2
    · have e : cenv.cells.lookup y = some c := e
      exact (hfp b hb).1.2.2.2.2.1 y c (mem e).1 z
    · rcases (hfp b hb).1.2.2.2.1 with z | z
      · exact I.ok.noex b o e z
      · exact absurd (Nat.lt_of_lt_of_le (Heap.lt_size e) (Nat.le_trans I.ok.bsz z)) (Nat.lt_irrefl _)
    · rcases List.mem_cons.mp (I.stkSub b z) with z | z
      · exact (hfp b hb).1.2.1 z
      · exact (hfp b hb).1.2.2.1 z
  refine ⟨okB, rfl, hg, Un.kept hk, ⟨(fun y => if y = (".0" : Str) then some itv else none), ?_, fun i y av e1 e2 e3 => ?_⟩, fun y c e => ?_, ?_, fun y c e => ?_, fun p hp => ?_, I.hok.kept hk, by rw [wipe_length]; exact I.len⟩
  · show Heap.Ns _ cenv.locals _
    rw [hL]
    exact hn
  · obtain ⟨e2, hne⟩ := wipe_some e2
    have hfr : scope.names.lookup y = some .free ∧ cenv.kindOf y = some .free := by
      have no : ¬ (scope.names.lookup y = some .local) := fun hh => by
        rcases ok.own _ (PySem.mem_of_lookup hh) rfl with e' | e'
        · obtain ⟨p, hp, hpy⟩ := List.mem_map.mp e'
          have e3 := ok.ix p hp
          have : p.1 = y := hpy
          rw [this] at e3
          exact hne (List.mem_map.mpr ⟨p, hp, nodup_ix hN e3 e1⟩)
        · exact e' (List.mem_of_getElem? e1)
      have e3 : Vis cenv.scope y := e3
      unfold Vis at e3
      rw [hsc] at e3
      rcases e3 with e3 | e3 | e3
      · exact absurd e3 no
      · exact absurd rfl (ok.cell _ (PySem.mem_of_lookup e3))
      · exact ⟨e3, by show cenv.scope.names.lookup y = _; rw [hsc]; exact e3⟩
    obtain ⟨m, hn, hl⟩ := I.loc
    have hvis : Vis X.env.scope y := (ok.free _ (PySem.mem_of_lookup hfr.1) rfl).elim (fun k => .inr (.inl k)) (fun k => .inr (.inr k))
    obtain ⟨w, r, q⟩ := hl i y av e1 e2 hvis
    refine ⟨w, r, .inr ⟨.inr hfr.2, ?_⟩⟩
    obtain ⟨c, h1, h2⟩ := look hfr.1
    rcases q with ⟨k, _⟩ | ⟨_, c', e', z⟩
    · have k : X.env.scope.names.lookup y = some .local := k
      rcases ok.free _ (PySem.mem_of_lookup hfr.1) rfl with k' | k' <;> rw [show X.env.scope.names.lookup y = _ from k'] at k <;> cases k
    · rw [h2] at e'; cases e'
      exact ⟨c, h1, z.keeps hk⟩
  · have e : cenv.cells.lookup y = some c := e
    obtain ⟨v, z⟩ := I.cell y c (mem e).1
    exact ⟨v, z.keeps hk⟩
  · show H cenv.locals = none
    rw [hL]
    exact I.hok.fresh (Nat.le_refl _)
  · exact I.freeC y c (mem (show cenv.cells.lookup y = some c from e)).1
  · rw [List.append_nil, List.mem_singleton] at hp
    subst hp
    refine ⟨hog, I.hok.fresh (Nat.le_succ _), ?_, fun z => ?_, hoc⟩
    · show s.heap.objs.size + 1 ≠ cenv.locals
      rw [hL]
      exact Nat.succ_ne_self _
    · have : s.heap.objs.size + 1 < s.heap.objs.size := by
        have q := I.stkSub _ z
        rcases List.mem_cons.mp q with q | q
        · have q : s.heap.objs.size + 1 = X.env.locals := q
          exact q ▸ I.lt
        · exact absurd q (I.nofs (Nat.le_succ _))
      omega
end
/-! ### the consumer -/
/-- what a builtin makes of the items: go on with a state, or give a value -/
structure Cons (S : Type) where
  take : S → V → Option (S ⊕ V)
  fin : S → V
  /-- where its own state lies -/
  Lk : S → List (Addr × Obj) → Prop
/-- the reading: W by the turn, a measure and the builtin's state -/
def GTurns {S : Type} (C : Cons S) (J : It) (g : TG) (tt : TT) (te : TE) (σw : L2.St) (vs : List Nat) (Q : VK) (W : Nat → Nat → S → Hp → Prop) : Prop := ∀ i m a H, W i m a H →
  (J.stop i H ∧ Q (C.fin a) H) ∨ (J.go i H ∧ ∃ Nx : S → Hp → Prop, (∀ a' H', Nx a' H' → ∃ m', m' < m ∧ W (i + 1) m' a' H') ∧ ∀ x H', J.yld i H x H' → g x σw H' fun σ2 H2 => wipe σ2 vs = σw ∧ tt σ2 H2 fun b H3 =>
    if b = true then te σ2 H3 fun y H4 => ∃ r, C.take a y = some r ∧ (match r with | .inl a' => Nx a' H4 | .inr z => Q z H4) else Nx a H3)
section
variable {S : Type} {C : Cons S} {X : Cx} {fp : List Addr}
/-- an item is handed out -/
def gxY (C : Cons S) (X : Cx) (fp : List Addr) (Q : VK) : Protocol := fun n s₀ v s kap => ∃ (a : S) (pins : List (Addr × Obj)) (y : V) (σ : L2.St) (H : Hp) (r : S ⊕ V), C.Lk a pins ∧ (∀ p ∈ pins, s₀.heap.get? p.1 = some p.2) ∧ Inv X pins σ H s ∧ RelV y v ∧ C.take a y = some r ∧
  (match r with
    | .inr z => Q z H
    | .inl a' => ∀ (s'' : Shared) (pins' : List (Addr × Obj)), C.Lk a' pins' → Inv X pins' σ H s'' → (∀ b ∈ fp, ∀ o, s.heap.get? b = some o → s''.heap.get? b = some o) → kap (.send .none) s'')
def gxR (C : Cons S) (X : Cx) (Q : VK) : Nat → Shared → Shared → Prop := fun n s₀ s => ∃ (a : S) (pins : List (Addr × Obj)) (σ : L2.St) (H : Hp), C.Lk a pins ∧ (∀ p ∈ pins, s₀.heap.get? p.1 = some p.2) ∧ Inv X pins σ H s ∧ Q (C.fin a) H
theorem seg_gx {prog : Program} {w : World} {K : PySem.W.Frag} {A : Around} {elt tg iter : Expr} {ifs : List Expr} {scope : Scope} {pos : Pos} {it : Addr} {J : It} {tn : Nat → Heap → Prop} {g : TG} {tt : TT} {te : TE} {σw : L2.St} {vs : List Nat} {Q : VK} {W : Nat → Nat → S → Hp → Prop}
    (hp : X.prog = prog) (hw : X.w = w) (hK : X.K = K) (hcalm : X.calm = true) (hxe : X.xe = fun _ _ => False) (hA : A.deeper X.env = X.A) (hco : X.env.scope.isCoroutine = false)
    (Tn : Turn prog w K tg J fp it tn) (hg : PG X tg g) (ht : PTs X ifs tt) (he : PE X elt te) (hs : GTurns C J g tt te σw vs Q W) (hLk : ∀ a pins, C.Lk a pins → ∀ p ∈ pins, ∀ b ∈ fp, p.1 ≠ b) :
    ∀ (m : Nat) (n i : Nat) (a : S) (pins : List (Addr × Obj)) (H : Hp) (s₀ s : Shared), m < n → W i m a H → C.Lk a pins → (∀ p ∈ pins, s₀.heap.get? p.1 = some p.2) → Inv X pins σw H s → tn i s.heap → (∀ b ∈ fp, FpOk X [] H b) →
      Seg (model prog w) A (fun n s₀ r s₁ => r = .ok .next ∧ gxR C X Q n s₀ s₁) (gxY C X fp Q) n s₀ (.compLoop (.GeneratorExp elt [⟨tg, iter, ifs, 0⟩] scope pos) 0 (.ref it) .none X.env)
        ((model prog w).den (.compLoop (.GeneratorExp elt [⟨tg, iter, ifs, 0⟩] scope pos) 0 (.ref it) .none X.env)) [] s := by
  subst hp hw hK
  intro m
  induction m using Nat.strongRecOn with
  | _ m ih =>
    intro n i a pins H s₀ s hmn hW hL h0 I htn hfp
    have fpA : ∀ {H' : Hp}, (∀ b ∈ fp, H' b = none) → (∀ b ∈ fp, FpOk X pins H' b) := fun {H'} h b hb => by
      obtain ⟨_, f1, f2, f3, f4, f5⟩ := hfp b hb
      refine ⟨h b hb, f1, f2, f3, f4, fun p hp => ?_⟩
      rcases List.mem_append.mp hp with z | z
      · exact f5 p (List.mem_append_left _ z)
      · exact hLk a pins hL p z b hb
    have fpN : ∀ {H' : Hp}, (∀ b ∈ fp, H' b = none) → (∀ b ∈ fp, FpOk X [] H' b) := fun {H'} h b hb => by
      obtain ⟨_, f1, f2, f3, f4, f5⟩ := hfp b hb
      exact ⟨h b hb, f1, f2, f3, f4, f5⟩
    have hA' : A.over (.compLoop (.GeneratorExp elt [⟨tg, iter, ifs, 0⟩] scope pos) 0 (.ref it) .none X.env) [] = X.A := over_comp.trans hA
    have no : ∀ {x : Value} {s' : Shared} {P : Prop}, X.xe x s' → P := fun {x s' P} h => by rw [hxe] at h; exact h.elim
    show Seg _ A _ _ _ s₀ _ ((compTurn (.GeneratorExp elt [⟨tg, iter, ifs, 0⟩] scope pos) 0 (.ref it) .none X.env).onRaise (leaving X.env)) [] s
    rw [compTurn_gen, Sem.onRaise_eq_wrap]
    refine seg_bind_wrap (wpAny_standAt ?_)
    rcases hs i m a H hW with ⟨hstop, hQ⟩ | ⟨hgo, Nx, hNx, hturn⟩
    · refine seg_bind_wrap ?_
      rw [hA']
      refine wpAny_mono (Tn.done X rfl rfl rfl hcalm i pins s σw H (fun _ _ => False) I (fpA fun b hb => (hfp b hb).1) htn hstop) (fun r s1 h1 => ?_) (fun x s1 h1 => h1.elim)
      obtain ⟨rfl, I1⟩ := h1
      exact seg_end (.ok .next) ⟨rfl, a, pins, σw, H, hL, h0, I1, hQ⟩
    · refine seg_bind_wrap ?_
      rw [hA']
      refine wpAny_mono (Tn.item X rfl rfl rfl hcalm i pins s σw H (fun _ _ => False) I (fpA fun b hb => (hfp b hb).1) htn hgo) (fun r s1 h1 => ?_) (fun x s1 h1 => h1.elim)
      obtain ⟨u, rfl, h1⟩ := h1
      refine seg_bind_wrap ?_
      rw [hA']
      refine wpAny_mono h1 (fun _ s2 h2 => ?_) (fun x s1 h1 => h1.elim)
      obtain ⟨x, H2, I2, ru, hy, htn2, hn2⟩ := h2
      have hpin : Inv X (pins ++ pinsAt fp s2.heap) σw H2 s2 := I2.pinned (fpA hn2) (Tn.obj (i + 1) s2.heap htn2)
      have after : ∀ {σ' : L2.St} {H' : Hp} {s' : Shared}, Inv X (pins ++ pinsAt fp s2.heap) σ' H' s' → (∀ b ∈ fp, ∀ o, s2.heap.get? b = some o → s'.heap.get? b = some o) ∧ ∀ b ∈ fp, H' b = none := fun {σ' H' s'} J' => by
        have key : ∀ b ∈ fp, ∀ o, s2.heap.get? b = some o → s'.heap.get? b = some o ∧ H' b = none := fun b hb o e => by
          have q := J'.pin (b, o) (List.mem_append_right _ (List.mem_append_right _ (mem_pinsAt hb e)))
          exact ⟨q.1, q.2.1⟩
        refine ⟨fun b hb o e => (key b hb o e).1, fun b hb => ?_⟩
        obtain ⟨o, e, _⟩ := Tn.obj (i + 1) s2.heap htn2 b hb
        exact (key b hb o e).2
      refine seg_bind_wrap ?_
      rw [hA']
      refine wpAny_mono (hg.run _ s2 σw H2 x u _ hpin ru (hturn x H2 hy)) (fun _ s3 h3 => ?_) (fun x s1 h1 => no h1)
      obtain ⟨σ3, H3, I3, hwipe, h3⟩ := h3
      refine seg_bind_wrap ?_
      rw [hA']
      refine wpAny_mono (ht.run _ s3 σ3 H3 _ I3 h3) (fun b s4 h4 => ?_) (fun x s1 h1 => no h1)
      obtain ⟨H4, I4, h4⟩ := h4
      have weak : ∀ {pp : List (Addr × Obj)} {H' : Hp} {s' : Shared}, Inv X pp σ3 H' s' → Inv X pp σw H' s' := fun {pp H' s'} J' => J'.weak (by rw [← hwipe, wipe_length]) fun j v e => by
        rw [← hwipe] at e
        exact (wipe_some e).1
      cases b with
      | false =>
        simp only [Bool.false_eq_true, if_false]
        rw [if_neg Bool.false_ne_true] at h4
        obtain ⟨m', hm', hW'⟩ := hNx a H4 h4
        obtain ⟨k1, k2⟩ := after I4
        refine seg_again rfl (ih m' hm' n (i + 1) a pins H4 s₀ s4 (Nat.lt_trans hm' hmn) hW' hL h0 (weak I4.unpinned) (Tn.keep _ _ _ htn2 k1) (fpN k2))
      | true =>
        simp only [if_true]
        rw [if_pos rfl] at h4
        have hyo : ∀ v, yieldOut X.env v = yieldValue v := fun v => by simp only [yieldOut, hco, Bool.false_eq_true, if_false]
        simp only [hyo]
        rw [Sem.bind_eq_wrap', Sem.bind_eq_wrap', Sem.wrap_wrap, Sem.wrap_wrap]
        refine seg_wrap ?_
        rw [hA']
        refine wpAny_mono (he.run _ s4 σ3 H4 _ I4 h4) (fun v s5 h5 => ?_) (fun x s1 h1 => no h1)
        obtain ⟨y, H5, I5, ry, r, hr, h5⟩ := h5
        obtain ⟨n', rfl⟩ : ∃ n', n = n' + 1 := ⟨n - 1, by omega⟩
        refine seg_at (seg_yield rfl rfl rfl ⟨a, pins, y, σw, H5, r, hL, h0, weak I5.unpinned, ry, hr, ?_⟩)
        obtain ⟨k1, k2⟩ := after I5
        cases r with
        | inr z => exact h5
        | inl a' =>
          intro s6 pins' hL' I6 hk6
          obtain ⟨m', hm', hW'⟩ := hNx a' H5 h5
          exact seg_again rfl (ih m' hm' n' (i + 1) a' pins' H5 s6 s6 (by omega) hW' hL' (fun p hp => (I6.pin p (List.mem_append_right _ hp)).1) I6 (Tn.keep _ _ _ htn2 fun b hb o e => hk6 b hb o (k1 b hb o e)) (fpN k2))
theorem seg_gxS {prog : Program} {w : World} {K : PySem.W.Frag} {A : Around} {elt tg iter : Expr} {ifs : List Expr} {scope : Scope} {pos : Pos} {it : Addr} {J : It} {tn : Nat → Heap → Prop} {g : TG} {tt : TT} {te : TE} {σw : L2.St} {vs : List Nat} {Q : VK} {W : Nat → Nat → S → Hp → Prop}
    (hp : X.prog = prog) (hw : X.w = w) (hK : X.K = K) (hcalm : X.calm = true) (hxe : X.xe = fun _ _ => False) (hA : A.deeper X.env = X.A) (hco : X.env.scope.isCoroutine = false)
    (Tn : Turn prog w K tg J fp it tn) (hg : PG X tg g) (ht : PTs X ifs tt) (he : PE X elt te) (hs : GTurns C J g tt te σw vs Q W) (hLk : ∀ a pins, C.Lk a pins → ∀ p ∈ pins, ∀ b ∈ fp, p.1 ≠ b)
    {m n : Nat} {a : S} {pins : List (Addr × Obj)} {H : Hp} {s₀ s : Shared} (hmn : m < n) (hW : W 0 m a H) (hL : C.Lk a pins) (h0 : ∀ p ∈ pins, s₀.heap.get? p.1 = some p.2) (I : Inv X pins σw H s) (htn : tn 0 s.heap) (hfp : ∀ b ∈ fp, FpOk X [] H b) :
      Seg (model prog w) A (fun n s₀ r s₁ => r = .ok .next ∧ gxR C X Q n s₀ s₁) (gxY C X fp Q) n s₀ (.compStart (.GeneratorExp elt [⟨tg, iter, ifs, 0⟩] scope pos) 0 (.ref it) .none X.env)
        ((model prog w).den (.compStart (.GeneratorExp elt [⟨tg, iter, ifs, 0⟩] scope pos) 0 (.ref it) .none X.env)) [] s := by
  have loop := seg_gx (iter := iter) (scope := scope) (pos := pos) hp hw hK hcalm hxe hA hco Tn hg ht he hs hLk m n 0 a pins H s₀ s hmn hW hL h0 I htn hfp
  show Seg _ A _ _ _ s₀ _ ((compStart (.GeneratorExp elt [⟨tg, iter, ifs, 0⟩] scope pos) 0 (.ref it) .none X.env).onRaise (leaving X.env)) [] s
  unfold compStart
  rw [Sem.onRaise_eq_wrap]
  show Seg _ A _ _ _ s₀ _ ((ask >>= _).wrap _ _ _ _) [] s
  refine seg_bind_wrap (wpAny_askSetting ?_)
  split
  · exact seg_again rfl loop
  · first
      | exact seg_bind_wrap (wpAny_rule (seg_bind_wrap (wpAny_standAt (seg_bind_wrap (Tn.self _ 0 s _ _ htn (seg_again rfl loop))))))
      | (refine seg_bind_wrap (wpAny_rule ?_); show Seg _ A _ _ _ s₀ _ ((standAt iter.pos >>= _).wrap _ _ _ _) [] s; exact seg_bind_wrap (wpAny_standAt (seg_bind_wrap (Tn.self _ 0 s _ _ htn (seg_again rfl loop)))))
/-- the generator, as the builtin finds it -/
def GAt (C : Cons S) (X : Cx) (fp : List Addr) (A : Around) (Q : VK) (gi : Nat) (n : Nat) (a : S) (s : Shared) : Prop :=
  ∃ (pins : List (Addr × Obj)) (σ : L2.St) (H : Hp) (gs : GenState), C.Lk a pins ∧ Inv X pins σ H s ∧ s.gens[gi]? = some gs ∧
    ∀ (s'' : Shared) (pins' : List (Addr × Obj)), C.Lk a pins' → Inv X pins' σ H s'' → (∀ b ∈ fp, ∀ o, s.heap.get? b = some o → s''.heap.get? b = some o) →
      gs.Goes (model X.prog X.w) A (fun n s₀ r s₁ => r = .ok .next ∧ gxR C X Q n s₀ s₁) (gxY C X fp Q) n (.send .none) s''
theorem Inv.gensAny {pins : List (Addr × Obj)} {σ : L2.St} {H : Hp} {s : Shared} {g' : Array GenState} {t' : Nat} (I : Inv X pins σ H s) (hg : AllBare g') : Inv X pins σ H { s with gens := g', toks := t' } := by
  have q := I.step (h' := s.heap) (g' := g') (t' := t') (d' := s.drawn) (ch := []) (H' := H) (fun b hb => absurd hb (by simp)) (fun b o _ _ _ e _ => e) (fun b o _ _ _ e _ => ⟨o.slots, e⟩) (fun b o _ _ e => e) (fun b o _ e => ⟨o, e⟩) (fun b xs e => e) (fun b o u e => e) (fun b ps e => ⟨#[], by rw [e]; simp⟩) (fun m h => h) I.hok hg
  exact q
theorem bare_set {s : Shared} {g : Nat} {x : GenState} (h : AllBare s.gens) (hx : x.bare = true) : AllBare (s.setGen g x).gens := by
  intro y hy
  have e : (s.setGen g x).gens = s.gens.setIfInBounds g x := rfl
  rw [e] at hy
  obtain ⟨i, hi, rfl⟩ := Array.mem_iff_getElem.mp hy
  rw [Array.size_setIfInBounds] at hi
  rw [Array.getElem_setIfInBounds (by simpa using hi)]
  split
  · exact hx
  · exact h _ (Array.getElem_mem _)
theorem Inv.setG {pins : List (Addr × Obj)} {σ : L2.St} {H : Hp} {s : Shared} {g : Nat} {x : GenState} (I : Inv X pins σ H s) (hx : x.bare = true) : Inv X pins σ H (s.setGen g x) :=
  Inv.gensAny (t' := s.toks) I (bare_set I.bare hx)
/-- what the builtin gets from next(generator) -/
def Nxt (C : Cons S) (X : Cx) (fp : List Addr) (A : Around) (Q : VK) (gi n : Nat) (s : Shared) (r : Option Value) (s1 : Shared) : Prop := match r with
  | none => ∃ (a : S) (pins : List (Addr × Obj)) (σ : L2.St) (H : Hp), C.Lk a pins ∧ (∀ p ∈ pins, s.heap.get? p.1 = some p.2) ∧ Inv X pins σ H s1 ∧ Q (C.fin a) H
  | some v => ∃ (a : S) (pins : List (Addr × Obj)) (y : V) (σ : L2.St) (H : Hp) (r : S ⊕ V), C.Lk a pins ∧ (∀ p ∈ pins, s.heap.get? p.1 = some p.2) ∧ Inv X pins σ H s1 ∧ RelV y v ∧ C.take a y = some r ∧
    (match r with
      | .inr z => Q z H
      | .inl a' => ∀ (s2 : Shared) (pins2 : List (Addr × Obj)), C.Lk a' pins2 → Inv X pins2 σ H s2 → s2.gens = s1.gens → (∀ b ∈ fp, ∀ o, s1.heap.get? b = some o → s2.heap.get? b = some o) → ∃ m, m < n ∧ GAt C X fp A Q gi m a' s2)
theorem gx_next {A0 : Around} {Q : VK} {ga : Addr} {gi n : Nat} {a : S} {s : Shared} {E : Value → Shared → Prop} {og : Obj} (hh : A0.handled = none) (hroom : A0.depth < recursionLimit) (hpn : (ga, og) ∈ X.pn) (hog : ∀ h : Heap, h.get? ga = some og → h.IsGen ga gi)
    (G : GAt C X fp A0.in1 Q gi n a s) : wpAny (model X.prog X.w) A0 (pyNext (.ref ga)) (fun r s1 => Nxt C X fp A0.in1 Q gi n s r s1) E s := by
  obtain ⟨pins, σ, H, gs, hL, I, hgs, hgo⟩ := G
  have isg : ∀ {pp σ' H' s'}, Inv X pp σ' H' s' → s'.heap.IsGen ga gi := fun J => hog _ (J.pin (ga, og) (List.mem_append_left _ hpn)).1
  have hlt : gi < s.gens.size := by
    rcases Nat.lt_or_ge gi s.gens.size with h' | h'
    · exact h'
    · rw [Array.getElem?_eq_none h'] at hgs; cases hgs
  have I0 : Inv X pins σ H (s.setGen gi .running) := Inv.setG I rfl
  refine GenW.wpAny_gsz (n := gi + 1) hlt ?_
  refine wpAny_pyNext_genexpQ (P := gxR C X Q) hh I.nolimit hroom (isg I) hgs (hgo _ pins hL I0 fun b _ o e => e) (fun v s1 gs' hb hv hsz => ?_) (fun s1 hp h' hk hsz => ?_)
  · obtain ⟨a1, pins1, y, σ1, H1, r, hL1, h0, I1, ry, hr, hm⟩ := hv
    have hlt1 : gi < s1.gens.size := by
      have e : (s1.setGen gi gs').gens.size = s1.gens.size := by simp [Shared.setGen]
      rw [← e]
      exact hsz
    refine ⟨a1, pins1, y, σ1, H1, r, hL1, h0, Inv.setG I1 hb, ry, hr, ?_⟩
    cases r with
    | inr z => exact hm
    | inl a' =>
      intro s2 pins2 hL2 I2 hg2 hk2
      cases n with
      | zero => exact absurd (hm s2 pins2 hL2 I2 hk2) id
      | succ m =>
        refine ⟨m, Nat.lt_succ_self m, pins2, σ1, H1, gs', hL2, I2, ?_, fun s3 pins3 hL3 I3 hk3 => hm s3 pins3 hL3 I3 fun b hb o e => hk3 b hb o (hk2 b hb o e)⟩
        rw [hg2]
        show (s1.gens.setIfInBounds gi gs')[gi]? = some gs'
        simp [hlt1]
  · obtain ⟨a1, pins1, σ1, H1, hL1, h0, I1, hq⟩ := hp
    exact ⟨a1, pins1, σ1, H1, hL1, h0, Inv.kept (t' := s1.toks) (Inv.setG (x := .finished) I1 rfl) hk, hq⟩
end
/-! ### any, all -/
def cAny : Cons Unit := ⟨fun _ y => match y with | .bl true => some (.inr (.bl true)) | .bl false => some (.inl ()) | _ => none, fun _ => .bl false, fun _ pins => pins = []⟩
def cAll : Cons Unit := ⟨fun _ y => match y with | .bl false => some (.inr (.bl false)) | .bl true => some (.inl ()) | _ => none, fun _ => .bl true, fun _ pins => pins = []⟩
/-- the builtin's own list -/
abbrev sumObj (a : Int) (t : Tok) (c : Nat) : Obj := { cls := .type "list", dict := none, data := .seq #[.int a t] c, slots := #[] }
def cSum (S : Addr) : Cons Int := ⟨fun a y => match y with | .int i => some (.inl (a + i)) | _ => none, fun a => .int a, fun a pins => ∃ t c, pins = [(S, sumObj a t c)]⟩
section
variable {X : Cx} {fp : List Addr} {A : Around} {Q : VK} {ga : Addr} {gi : Nat} {og : Obj} {R : Result → Shared → Prop}
theorem any_gx (hh : A.handled = none) (hroom : A.depth < recursionLimit) (hpn : (ga, og) ∈ X.pn) (hog : ∀ h : Heap, h.get? ga = some og → h.IsGen ga gi)
    (hR : ∀ b s' σ H, Inv X [] σ H s' → Q (.bl b) H → R (.ok (.ret (.bool b))) s') : ∀ (n : Nat) (s : Shared), GAt cAny X fp A.in1.in1 Q gi n () s → codeAny (model X.prog X.w) A (.builtin "any.loop" ⟨[.ref ga], []⟩) R s := by
  intro n
  induction n using Nat.strongRecOn with
  | _ n ih =>
    intro s G
    refine codeAny_builtin F.entry_any_loop ?_
    rw [Around.under_plainId F.plain_any_loop _]
    show wpAny _ A.in1 (pyNext (.ref ga) >>= _) _ _ s
    refine wpAny_bind (wpAny_mono (gx_next (E := fun _ _ => False) hh hroom hpn hog G) (fun r s1 h1 => ?_) fun _ _ e => e.elim)
    cases r with
    | none =>
      obtain ⟨a, pins, σ, H, hL, h0, I, hq⟩ := h1
      cases hL
      refine wpAny_bind (wpAny_rule (wpAny_pure ?_))
      exact hR false s1 σ H I hq
    | some v =>
      obtain ⟨a, pins, y, σ, H, r, hL, h0, I, ry, hr, h1⟩ := h1
      cases hL
      cases y with
      | bl b =>
        cases ry
        refine wpAny_bind (wpAny_holding (wpAny_truthy_bool ?_))
        refine wpAny_bind (wpAny_letGo ?_)
        cases b with
        | true =>
          simp only [if_true]
          cases hr
          refine wpAny_bind (wpAny_rule (wpAny_pure ?_))
          exact hR true s1 σ H I h1
        | false =>
          simp only [Bool.false_eq_true, if_false]
          cases hr
          obtain ⟨m, hm, G'⟩ := h1 s1 [] rfl I rfl fun b _ o e => e
          exact wpAny_pure ⟨plainId_quiet F.plain_any_loop _, ih m hm _ G'⟩
      | _ => cases hr
theorem all_gx (hh : A.handled = none) (hroom : A.depth < recursionLimit) (hpn : (ga, og) ∈ X.pn) (hog : ∀ h : Heap, h.get? ga = some og → h.IsGen ga gi)
    (hR : ∀ b s' σ H, Inv X [] σ H s' → Q (.bl b) H → R (.ok (.ret (.bool b))) s') : ∀ (n : Nat) (s : Shared), GAt cAll X fp A.in1.in1 Q gi n () s → codeAny (model X.prog X.w) A (.builtin "all.loop" ⟨[.ref ga], []⟩) R s := by
  intro n
  induction n using Nat.strongRecOn with
  | _ n ih =>
    intro s G
    refine codeAny_builtin F.entry_all_loop ?_
    rw [Around.under_plainId F.plain_all_loop _]
    show wpAny _ A.in1 (pyNext (.ref ga) >>= _) _ _ s
    refine wpAny_bind (wpAny_mono (gx_next (E := fun _ _ => False) hh hroom hpn hog G) (fun r s1 h1 => ?_) fun _ _ e => e.elim)
    cases r with
    | none =>
      obtain ⟨a, pins, σ, H, hL, h0, I, hq⟩ := h1
      cases hL
      refine wpAny_bind (wpAny_rule (wpAny_pure ?_))
      exact hR true s1 σ H I hq
    | some v =>
      obtain ⟨a, pins, y, σ, H, r, hL, h0, I, ry, hr, h1⟩ := h1
      cases hL
      cases y with
      | bl b =>
        cases ry
        refine wpAny_bind (wpAny_holding (wpAny_truthy_bool ?_))
        refine wpAny_bind (wpAny_letGo ?_)
        cases b with
        | false =>
          simp only [Bool.false_eq_true, if_false]
          cases hr
          refine wpAny_bind (wpAny_rule (wpAny_pure ?_))
          exact hR false s1 σ H I h1
        | true =>
          simp only [if_true]
          cases hr
          obtain ⟨m, hm, G'⟩ := h1 s1 [] rfl I rfl fun b _ o e => e
          exact wpAny_pure ⟨plainId_quiet F.plain_all_loop _, ih m hm _ G'⟩
      | _ => cases hr
/-- our own list's record is written -/
theorem Inv.pinWrite {S : Addr} {o o' : Obj} {σ : L2.St} {H : Hp} {s : Shared} {h' : Heap} {t' : Nat} (I : Inv X [(S, o)] σ H s) (hb : Heap.SameBut S s.heap h') (hs : h'.get? S = some o') (hc : ∀ v, o'.data ≠ .cell v) (hS0 : X.s_0.heap.objs.size ≤ S) (hSc : ∀ x c, X.env.cells.lookup x = some c → c ≠ S) (hSp : ∀ p ∈ X.pn, p.1 ≠ S) :
    Inv X [(S, o')] σ H { s with heap := h', toks := t' } := by
  obtain ⟨e0, hn, hl, hf, _⟩ := I.pin (S, o) (List.mem_append_right _ List.mem_cons_self)
  have J : Inv X [] σ H s := I.pins_of fun p hp => by cases hp
  have k : ∀ b u, b ≠ S → s.heap.get? b = some u → h'.get? b = some u := fun b u h e => (hb.2 b h).trans e
  have J2 : Inv X [] σ H { s with heap := h', toks := t' } := J.turned k hn hl (.inr hS0) hSc (fun p hp => by rw [List.append_nil] at hp; exact hSp p hp)
  exact J2.pins_of fun p hp => by
    cases List.mem_singleton.mp hp
    exact ⟨hs, hn, hl, hf, hc⟩
theorem sum_gx {S : Addr} (hh : A.handled = none) (hroom : A.depth < recursionLimit) (hpn : (ga, og) ∈ X.pn) (hog : ∀ h : Heap, h.get? ga = some og → h.IsGen ga gi)
    (hS0 : X.s_0.heap.objs.size ≤ S) (hSc : ∀ x c, X.env.cells.lookup x = some c → c ≠ S) (hSp : ∀ p ∈ X.pn, p.1 ≠ S) (hSf : S ∉ fp)
    (hR : ∀ a t s' pins σ H, Inv X pins σ H s' → Q (.int a) H → R (.ok (.ret (.int a t))) s') : ∀ (n : Nat) (a : Int) (s : Shared) (st : Int), (st = 0 ∨ st = 2) → GAt (cSum S) X fp A.in1.in1 Q gi n a s →
      codeAny (model X.prog X.w) A (.builtin "sum.loop" ⟨[.ref ga, .ref S, rawInt st, rawInt 0], []⟩) R s := by
  intro n
  induction n using Nat.strongRecOn with
  | _ n ih =>
    intro a s st hst G
    obtain ⟨pins, σ, H, gs, ⟨tA, c, rfl⟩, I, hgs, hgo⟩ := _root_.id G
    have hS := (I.pin (S, sumObj a tA c) (List.mem_append_right _ List.mem_cons_self)).1
    refine codeAny_builtin F.entry_sum_loop ?_
    rw [Around.under_plainId F.plain_sum_loop _]
    show wpAny _ A.in1 (seqItems? (.ref S) >>= _) _ _ s
    refine wpAny_bind (wpAny_seqItems hS rfl ?_)
    show wpAny _ A.in1 (tryCatch (pyNext (.ref ga)) _ >>= _) _ _ s
    refine wpAny_bind (wpAny_tryCatch (wpAny_mono (gx_next (E := fun _ _ => False) hh hroom hpn hog G) (fun r s1 h1 => ?_) fun _ _ e => e.elim))
    cases r with
    | none =>
      obtain ⟨a1, pins1, σ1, H1, ⟨t1, c1, rfl⟩, h0, I1, hq⟩ := h1
      have e := h0 _ List.mem_cons_self
      rw [hS] at e
      cases e
      exact wpAny_pure (hR a tA s1 _ σ1 H1 I1 hq)
    | some v =>
      obtain ⟨a1, pins1, y, σ1, H1, r, ⟨t1, c1, rfl⟩, h0, I1, ry, hr, h1⟩ := h1
      have e := h0 _ List.mem_cons_self
      rw [hS] at e
      cases e
      have hS1 := (I1.pin (S, sumObj a tA c) (List.mem_append_right _ List.mem_cons_self)).1
      cases y with
      | int i =>
        obtain ⟨t, rfl⟩ := ry
        cases hr
        have again : ∀ (h' : Heap) (tk : Nat) (t' : Tok) (c' : Nat) (st' : Int), (st' = 0 ∨ st' = 2) → Heap.SameBut S s1.heap h' → h'.get? S = some (sumObj (a + i) t' c') → codeAny (model X.prog X.w) A (.builtin "sum.loop" ⟨[.ref ga, .ref S, rawInt st', rawInt 0], []⟩) R { s1 with heap := h', toks := tk } := by
          intro h' tk t' c' st' hst' hb hs
          have I2 := Inv.pinWrite (t' := tk) I1 hb hs (fun v q => by cases q) hS0 hSc hSp
          obtain ⟨m, hm, G'⟩ := h1 { s1 with heap := h', toks := tk } _ ⟨t', c', rfl⟩ I2 rfl fun b hb' o e => (hb.2 b fun z => hSf (z ▸ hb')).trans e
          exact ih m hm (a + i) _ st' hst' G'
        rcases hst with rfl | rfl
        · show wpAny _ A.in1 (if (_ : Bool) = true then (mkInt (a + i) >>= _) else _) _ _ _
          split
          · refine wpAny_bind (wpAny_mkInt ?_)
            show wpAny _ A.in1 (updateSeq S (fun _ => #[.int (a + i) s1.toks]) >>= _) _ _ _
            refine wpAny_bind ?_
            exact wpAny_updateSeq hS1 rfl (wpAny_pure ⟨plainId_quiet F.plain_sum_loop _, again _ _ s1.toks _ 0 (.inl rfl) (Heap.SameBut.update ..) (Heap.get?_update_self _ hS1 rfl)⟩)
          · refine wpAny_bind (wpAny_rule ?_)
            refine wpAny_bind (wpAny_attempt (wpAny_holding (wpAny_add_int ?_)))
            show wpAny _ A.in1 (updateSeq S (fun _ => #[.int (a + i) s1.toks]) >>= _) _ _ _
            refine wpAny_bind (wpAny_updateSeq hS1 rfl ?_)
            have hS₂ := Heap.get?_update_self (Obj.mapSeq fun _ => #[Value.int (a + i) s1.toks]) hS1 rfl
            refine wpAny_bind (wpAny_letGo ?_)
            exact wpAny_bind (wpAny_updateSeq hS₂ rfl (wpAny_pure ⟨plainId_quiet F.plain_sum_loop _, again _ _ s1.toks _ 2 (.inr rfl) ((Heap.SameBut.update ..).trans (Heap.SameBut.update ..)) (Heap.get?_update_self _ hS₂ rfl)⟩))
        · show wpAny _ A.in1 ((holding [Value.int i t] (binaryOp .Add (.int a tA) (.int i t))).attempt >>= _) _ _ _
          refine wpAny_bind (wpAny_attempt (wpAny_holding (wpAny_add_int ?_)))
          show wpAny _ A.in1 (updateSeq S (fun _ => #[.int (a + i) s1.toks]) >>= _) _ _ _
          refine wpAny_bind (wpAny_updateSeq hS1 rfl ?_)
          have hS₂ := Heap.get?_update_self (Obj.mapSeq fun _ => #[Value.int (a + i) s1.toks]) hS1 rfl
          refine wpAny_bind (wpAny_letGo ?_)
          exact wpAny_bind (wpAny_updateSeq hS₂ rfl (wpAny_pure ⟨plainId_quiet F.plain_sum_loop _, again _ _ s1.toks _ 2 (.inr rfl) ((Heap.SameBut.update ..).trans (Heap.SameBut.update ..)) (Heap.get?_update_self _ hS₂ rfl)⟩))
      | _ => cases hr
end
end LW

set_option Elab.async false
set_option linter.all false
set_option maxRecDepth 100000
set_option maxHeartbeats 4000000
/-! LH: any, all, sum of a generator expression. -/
namespace LW
open PySem PySem.Spec PyProof.Rows L2
open Sem (wp)
/-- the table at P has grown -/
def Grown (P : Addr) (H H' : Hp) : Prop := ∃ (ps more : Array Value), H P = some (.tbl ps) ∧ H' = upd H P (.tbl (ps ++ more)) ∧ TriplesOk (ps ++ more).toList
/-- the generator at ga, ready for a builtin, in the state s5 -/
def GReady {S : Type} (X : Cx) (pins : List (Addr × Obj)) (σ : L2.St) (take : S → V → Option (S ⊕ V)) (fin : S → V) (a0 : S) (Q : VK) (ga : Addr) (s5 : Shared) : Prop :=
  ∃ (Xg : Cx) (fp : List Addr) (og : Obj) (gi n : Nat) (σw : L2.St) (H2 : Hp) (gs : GenState), Xg.prog = X.prog ∧ Xg.w = X.w ∧ (ga, og) ∈ Xg.pn ∧ (∀ h : Heap, h.get? ga = some og → h.IsGen ga gi) ∧ Inv Xg [] σw H2 s5 ∧ (∀ b ∈ fp, b < s5.heap.objs.size) ∧ s5.gens[gi]? = some gs ∧
    (∀ (Lk : S → List (Addr × Obj) → Prop), (∀ a pins, Lk a pins → ∀ p ∈ pins, ∀ b ∈ fp, p.1 ≠ b) → ∀ (s6 : Shared) (pins' : List (Addr × Obj)), Lk a0 pins' → Inv Xg pins' σw H2 s6 → s6.gens[gi]? = some gs → (∀ b ∈ fp, ∀ o, s5.heap.get? b = some o → s6.heap.get? b = some o) →
      GAt ⟨take, fin, Lk⟩ Xg fp X.A.in1.in1 Q gi n a0 s6) ∧
    ∀ pins' σ' H' s', Inv Xg pins' σ' H' s' → Inv X pins σ H' s'
/-- the generator's turns, as they are read: the walked thing, the table's step, the turns -/
def tGx {S : Type} (P : Addr) (take : S → V → Option (S ⊕ V)) (fin : S → V) (a0 : S) (wi : TI) (g : TG) (tt : TT) (te : TE) (vs : List Nat) : TE := fun σ H Q => wi σ H fun J H1 => GxR.TabG H1 P ∧ ∀ H2, Grown P H1 H2 →
  ∃ W : Nat → Nat → S → Hp → Prop, (∃ m, W 0 m a0 H2) ∧ GTurns ⟨take, fin, fun _ _ => True⟩ J g tt te (wipe σ vs) vs Q W
abbrev GBlks (X : Cx) (k : Nat) (scope : Scope) (P : Cx → Prop) : Prop := ∀ (Ag : Around) (s : Shared) (H : Hp) (C : Addr) (cl : List (Str × Addr)) (code : Value) (fp : List Addr) (pn : List (Addr × Obj)), Room k Ag → P (gcx X Ag s H (genEnv scope cl C code builtinsNs X.env) fp pn)
section
variable {X : Cx} {pins : List (Addr × Obj)} {σ : L2.St} {H : Hp} {s : Shared} {S : Type} {take : S → V → Option (S ⊕ V)} {fin : S → V} {a0 : S}
theorem gen_made {c P : Addr} {elt iter tg : Expr} {ifs : List Expr} {gpos : Pos} {scope : Scope} {own : List (Str × Nat)} {k : Nat} {wi : TI} {g : TG} {tt : TT} {te : TE} {Q : VK} {Q' : Value → Shared → Prop}
    (hc : X.calm = true) (hN : X.N.Nodup) (hr : Room (k + 1) X.A) (TB : GxR.TabB X.base X.mg c P) (hcode : X.env.code = .ref c) (ok : GenB X.N X.env.scope scope own) (hi : PI X tg iter wi)
    (hg : GBlks X k scope fun X' => PG X' tg g) (ht : GBlks X k scope fun X' => PTs X' ifs tt) (he : GBlks X k scope fun X' => PE X' elt te)
    (hs : ∀ v, genFold iter X.env v = pure v) (I : Inv X pins σ H s) (h : tGx P take fin a0 wi g tt te (own.map (·.2)) σ H Q)
    (hQ : ∀ ga s5, GReady X pins σ take fin a0 Q ga s5 → Q' (.ref ga) s5) :
    wpAny (model X.prog X.w) X.A (eval (.GeneratorExp elt [⟨tg, iter, ifs, 0⟩] scope gpos) X.env) Q' X.xe s := by
  have hfree : ∀ y ∈ scope.names, y.2 = .free → ∃ c, X.env.cells.lookup y.1 = some c := fun y hy e => by
    rcases ok.free y hy e with k | k
    · exact I.ok.has _ (.inl k)
    · exact I.ok.has _ (.inr k)
  refine wpAny_GeneratorExp_make ok.co (closure_ok hfree) ok.cell ok.dot ok.kind (by have := hr.dp; omega) ?_ hs
  refine thn (hi.run pins s σ H _ I h) fun xv s1 hx => thn hx fun itv s2 h2 => ?_
  obtain ⟨it, fp, tn, J, H1, e, I1, Tn, st1, f1, ⟨ps, hP, ht3⟩, q⟩ := h2
  subst e
  have hPs : s2.heap.get? P = some { cls := .none, data := .fields ps } := I1.hok P _ hP
  have cd : PySem.W.CodeHd s2.heap c P := TB.code.keeps fun b u e => I1.bk b u e
  have nP : ∀ b, H1 b = none → b ≠ P := fun b e z => by rw [z, hP] at e; cases e
  have cont : ∀ (code : Value) (h3 : Heap) (tk : Nat) (ps' : Array Value), Heap.ExtBut P s2.heap h3 → s2.heap.objs.size ≤ h3.objs.size → h3.get? P = some { cls := .none, data := .fields ps' } → (∃ more, ps' = ps ++ more) → TriplesOk ps'.toList →
      wpAny (model X.prog X.w) X.A (builtinsFor X.env.globals X.env.builtins) (fun bi s₄ =>
        ∀ h', h'.Ns s₄.heap.objs.size (fun y => if y = (".0" : Str) then some (.ref it) else none) → Heap.SameBut s₄.heap.objs.size (s₄.heap.push { cls := .type "frame", data := .dict #[] }) h' →
          Q' (.ref h'.objs.size) { s₄ with
            gens := s₄.gens.push (.fresh (.compStart (.GeneratorExp elt [⟨tg, iter, ifs, 0⟩] scope gpos) 0 (.ref it) .none (genEnv scope (cloFrom X.env.cells scope.names []) s₄.heap.objs.size code bi X.env))),
            toks := s₄.toks + 1 + 1 + 1,
            heap := h'.push { cls := .type "generator", data := .fields #[.int s₄.gens.size 0, .str "<genexpr>" (s₄.toks + 1), .str (X.env.qual ++ "<genexpr>") (s₄.toks + 1 + 1)] } }) X.xe { s2 with heap := h3, toks := tk } := by
    intro code h3 tk ps' hx hsz hP3 hmore ht4
    obtain ⟨bm, ob, e1, e2, e3, e4, e5, e6, e7, e8⟩ := TB.bm
    have keep3 : ∀ b u, b ≠ P → s2.heap.get? b = some u → h3.get? b = some u := fun b u hb e => hx b u hb e
    refine wpAny_builtinsFor (m := X.mg) (by rw [I1.ok.glob]; exact (I1.mod.glob.keeps I1.bk).extBut hx TB.gP) e1 e2 (keep3 _ _ e4 (I1.bk _ _ e5)) e6 e7 e8 ?_
    intro h' hn' hs'
    obtain ⟨more, em⟩ := hmore
    subst em
    have I2 := GxR.inv_tab (more := more) (h' := h3) (g' := s2.gens) (d' := s2.drawn) (t' := tk) I1 hP keep3 hP3 I1.bare
    generalize hH2 : upd H1 P (.tbl (ps ++ more)) = H2 at I2
    obtain ⟨W, ⟨m0, w0⟩, turns⟩ := q H2 ⟨ps, more, hP, hH2.symm, ht4⟩
    have f2 : ∀ b ∈ fp, FpOk X pins H2 b ∧ b < h3.objs.size := fun b hb => by
      obtain ⟨o, eo, _⟩ := Tn.obj _ _ st1 b hb
      refine ⟨⟨?_, (f1 b hb).2⟩, Nat.lt_of_lt_of_le (Heap.lt_size eo) hsz⟩
      rw [← hH2, upd_ne (nP b (f1 b hb).1)]
      exact (f1 b hb).1
    have st2 : tn 0 h3 := Tn.keep _ _ _ st1 fun b hb o e => keep3 b o (nP b (f1 b hb).1) e
    generalize hs4 : ({ s2 with heap := h3, toks := tk } : Shared) = s4 at *
    have h4 : s4.heap = h3 := by rw [← hs4]
    rw [← h4] at f2 st2
    have hsz' : h'.objs.size = s4.heap.objs.size + 1 := by rw [hs'.1, Heap.size_push]
    have keep' : ∀ b o, s4.heap.get? b = some o → h'.get? b = some o := fun b o e => hs'.extBut b o (Nat.ne_of_lt (Heap.lt_size e)) (Heap.get?_push_of_some _ e)
    generalize hog : ({ cls := .type "generator", data := .fields #[.int s4.gens.size 0, .str "<genexpr>" (s4.toks + 1), .str (X.env.qual ++ "<genexpr>") (s4.toks + 1 + 1)] } : Obj) = og
    have keep5 : ∀ b o, s4.heap.get? b = some o → (h'.push og).get? b = some o := fun b o e => Heap.get?_push_of_some _ (keep' b o e)
    have gog : (h'.push og).get? (s4.heap.objs.size + 1) = some og := by
      rw [← hsz']
      exact Heap.get?_push_size _ (by rw [← hog]; rfl)
    let Ag := X.A.in1.in1.deeper (genEnv scope (cloFrom X.env.cells scope.names []) s4.heap.objs.size code builtinsNs X.env)
    have rAg : Room k Ag := ⟨hr.hd, by have := hr.dp; show X.A.depth + 1 + 3 * k + 5 < _; omega, by have := hr.un; show X.A.units + 1 + 1 + 3 + 16 * k + 200 < _; omega⟩
    have I5 := gen_start (fp := fp) (Ag := Ag) (code := code) (itv := .ref it) (h5 := h'.push og) (og := og) (tk := s4.toks + 1 + 1 + 1)
      (gs := s4.gens.push (.fresh (.compStart (.GeneratorExp elt [⟨tg, iter, ifs, 0⟩] scope gpos) 0 (.ref it) .none (genEnv scope (cloFrom X.env.cells scope.names []) s4.heap.objs.size code builtinsNs X.env))))
      I2 ok hN f2 hr.hd (by
        have e : X.A.frames = some X.stack := I2.ok.frames
        show Around.frames (X.A.in1.in1.deeper _) = _
        show (X.A.frames.map fun l => _ :: l) = _
        rw [e]; rfl) (hn'.push _) keep5 (by rw [Heap.size_push, hsz']) gog (by rw [← hog]; exact fun v z => by cases z) (I2.bare.push rfl)
    rw [hsz']
    refine hQ _ _ ?_
    generalize hcenv : genEnv scope (cloFrom X.env.cells scope.names []) s4.heap.objs.size code builtinsNs X.env = cenv at *
    have pg : PG (gcx X Ag s4 H2 cenv fp [(s4.heap.objs.size + 1, og)]) tg g := by rw [← hcenv]; exact hg _ _ _ _ _ _ _ _ rAg
    have pt : PTs (gcx X Ag s4 H2 cenv fp [(s4.heap.objs.size + 1, og)]) ifs tt := by rw [← hcenv]; exact ht _ _ _ _ _ _ _ _ rAg
    have pe : PE (gcx X Ag s4 H2 cenv fp [(s4.heap.objs.size + 1, og)]) elt te := by rw [← hcenv]; exact he _ _ _ _ _ _ _ _ rAg
    refine ⟨gcx X Ag s4 H2 cenv fp [(s4.heap.objs.size + 1, og)], fp, og, s4.gens.size, m0 + 1, _, H2, _, rfl, rfl, List.mem_cons_self, fun hh e => ⟨_, _, _, e, by rw [← hog], by rw [← hog], by rw [← hog]⟩, I5, fun b hb => ?_, Array.getElem?_push_size .., ?_, ?_⟩
    · show b < (h'.push og).objs.size
      rw [Heap.size_push, hsz']
      exact Nat.lt_succ_of_lt (Nat.lt_succ_of_lt (f2 b hb).2)
    · intro Lk hLk s6 pins6 hL6 I6 hg6 hk6
      refine ⟨pins6, _, H2, _, hL6, I6, hg6, fun s7 pins7 hL7 I7 hk7 => ?_⟩
      refine ⟨rfl, ?_⟩
      refine seg_gxS (X := gcx X Ag s4 H2 cenv fp [(s4.heap.objs.size + 1, og)]) (C := ⟨take, fin, Lk⟩) (W := W) (J := J) (tn := tn) rfl rfl rfl rfl rfl (by rw [← hcenv]) (by rw [← hcenv]; exact ok.co) Tn pg pt pe turns hLk (Nat.lt_succ_self m0) w0 hL7 (fun p hp => (I7.pin p (List.mem_append_right _ hp)).1) I7 (Tn.keep _ _ _ st2 fun b hb o e => hk7 b hb o (hk6 b hb o (keep5 b o e))) fun b hb => ?_
      have q := f2 b hb
      refine ⟨q.1.1, ?_, ?_, .inl hb, fun x cc e => (I7.ok.exf b hb).2 x cc e, fun p hp => ?_⟩
      · exact (I7.ok.exf b hb).1
      · exact I7.ok.exfs b hb
      · rw [List.append_nil] at hp
        have hp : p ∈ [(s4.heap.objs.size + 1, og)] := hp
        rw [List.mem_singleton] at hp
        subst hp
        show s4.heap.objs.size + 1 ≠ b
        exact fun z => Nat.lt_irrefl _ (Nat.lt_of_succ_lt (z ▸ q.2))
    · intro pins' σ' H' s' I6
      exact I2.call' (ch := fp) I6.os I6.base I6.hok I6.bare fun b hb => ⟨(f2 b hb).1.2.2.2.1, (f2 b hb).1.2.1, (f2 b hb).1.2.2.2.2.1, (f2 b hb).1.2.2.2.2.2⟩
  refine ⟨I1.nolimit, ?_⟩
  cases hf : codeAmong gpos ps.toList with
  | none =>
    refine wpAny_genexprCodeX hcode (cd.code hPs ht3) (cd.tab hPs) hf fun c' h' tk hx hge hlt hco' _ htab' _ => ?_
    obtain ⟨o1, vs, f1', tf, fl, tg', inF, tx, tt', op, _, _, _, _, _, _, _, _, _, htr, _⟩ := hco'
    exact cont _ h' tk _ hx (Nat.le_trans hge (Nat.le_of_lt hlt)) htab'.2 ⟨_, rfl⟩ htr
  | some cv =>
    refine wpAny_genexprCode_hit hcode (cd.code hPs ht3) hf ?_
    exact cont cv s2.heap s2.toks ps (Heap.ExtBut.refl _ _) (Nat.le_refl _) hPs ⟨#[], by simp⟩ ht3

theorem pe_anyG {c P : Addr} {elt iter tg : Expr} {ifs : List Expr} {p pos gpos : Pos} {scope : Scope} {own : List (Str × Nat)} {k : Nat} {wi : TI} {g : TG} {tt : TT} {te : TE}
    (hc : X.calm = true) (hN : X.N.Nodup) (hr : Room (k + 1) X.A) (hgl : Gl X "any") (hm : X.mg "any" = none) (TB : GxR.TabB X.base X.mg c P) (hcode : X.env.code = .ref c) (ok : GenB X.N X.env.scope scope own) (hi : PI X tg iter wi)
    (hg : GBlks X k scope fun X' => PG X' tg g) (ht : GBlks X k scope fun X' => PTs X' ifs tt) (he : GBlks X k scope fun X' => PE X' elt te) (hs : ∀ v, genFold iter X.env v = pure v)
    (hst : starEach [.GeneratorExp elt [⟨tg, iter, ifs, 0⟩] scope gpos] X.env = (false, eval (.GeneratorExp elt [⟨tg, iter, ifs, 0⟩] scope gpos) X.env) :: starEach [] X.env := by rfl) :
    PE X (.Call (.Name "any" p) [.GeneratorExp elt [⟨tg, iter, ifs, 0⟩] scope gpos] [] pos) (tGx P cAny.take cAny.fin () wi g tt te (own.map (·.2))) := by
  refine ⟨fun pins s σ H Q I h => ?_⟩
  refine wpAny_Call_Name_kw (ld_blt I hgl hm boot_any ?_)
  refine PyProof.Rows.callWith_builtin1 ?_ hst (by rfl)
  rw [hst]
  show wpAny _ _ (spliced ((false, eval (.GeneratorExp elt [⟨tg, iter, ifs, 0⟩] scope gpos) X.env) :: backTo pos (starEach [] X.env))) _ _ s
  refine Calls.spliced_cons (gen_made hc hN hr TB hcode ok hi hg ht he hs I h fun ga s5 hG => ?_)
  obtain ⟨Xg, fp, og, gi, n, σw, H2, gs, hXp, hXw, hpn, hog, I5, hfp, hgs, hgo, back⟩ := hG
  refine Calls.spliced_nil ?_
  refine call_function_tree F.kind_any F.plain_any F.entry_any (F.args_any1 _) ?_
  unfold Builtin.«any»
  refine wpAny_bind (m := oneArg "any" _) (wpAny_pure ?_)
  have isg : s5.heap.IsGen ga gi := hog _ (I5.pin (ga, og) (List.mem_append_left _ hpn)).1
  refine wpAny_bind (wpAny_pyIter_gen isg ?_)
  have G0 := hgo cAny.Lk (fun a pins h p hp => by cases h; cases hp) s5 [] rfl I5 hgs fun b _ o e => e
  have loop := any_gx (X := Xg) (A := X.A) (R := fun r s' => ∃ b σ' H', r = .ok (.ret (.bool b)) ∧ L2.Inv Xg [] σ' H' s' ∧ Q (.bl b) H') hr.hd (by have := hr.dp; omega) hpn hog (fun b s' σ' H' I' q => ⟨b, σ', H', rfl, I', q⟩) n s5 G0
  rw [hXp, hXw] at loop
  refine wpAny_pure ⟨plainId_quiet F.plain_any_loop _, codeAny_mono loop fun r s' h => ?_⟩
  obtain ⟨b, σ', H', rfl, I', q⟩ := h
  exact ⟨.bl b, H', back _ _ _ _ I', rfl, q⟩
theorem pe_allG {c P : Addr} {elt iter tg : Expr} {ifs : List Expr} {p pos gpos : Pos} {scope : Scope} {own : List (Str × Nat)} {k : Nat} {wi : TI} {g : TG} {tt : TT} {te : TE}
    (hc : X.calm = true) (hN : X.N.Nodup) (hr : Room (k + 1) X.A) (hgl : Gl X "all") (hm : X.mg "all" = none) (TB : GxR.TabB X.base X.mg c P) (hcode : X.env.code = .ref c) (ok : GenB X.N X.env.scope scope own) (hi : PI X tg iter wi)
    (hg : GBlks X k scope fun X' => PG X' tg g) (ht : GBlks X k scope fun X' => PTs X' ifs tt) (he : GBlks X k scope fun X' => PE X' elt te) (hs : ∀ v, genFold iter X.env v = pure v)
    (hst : starEach [.GeneratorExp elt [⟨tg, iter, ifs, 0⟩] scope gpos] X.env = (false, eval (.GeneratorExp elt [⟨tg, iter, ifs, 0⟩] scope gpos) X.env) :: starEach [] X.env := by rfl) :
    PE X (.Call (.Name "all" p) [.GeneratorExp elt [⟨tg, iter, ifs, 0⟩] scope gpos] [] pos) (tGx P cAll.take cAll.fin () wi g tt te (own.map (·.2))) := by
  refine ⟨fun pins s σ H Q I h => ?_⟩
  refine wpAny_Call_Name_kw (ld_blt I hgl hm (u := .builtin "all") (by decide +kernel) ?_)
  refine PyProof.Rows.callWith_builtin1 ?_ hst (by rfl)
  rw [hst]
  show wpAny _ _ (spliced ((false, eval (.GeneratorExp elt [⟨tg, iter, ifs, 0⟩] scope gpos) X.env) :: backTo pos (starEach [] X.env))) _ _ s
  refine Calls.spliced_cons (gen_made hc hN hr TB hcode ok hi hg ht he hs I h fun ga s5 hG => ?_)
  obtain ⟨Xg, fp, og, gi, n, σw, H2, gs, hXp, hXw, hpn, hog, I5, hfp, hgs, hgo, back⟩ := hG
  refine Calls.spliced_nil ?_
  refine call_function_tree F.kind_all F.plain_all F.entry_all (F.args_all1 _) ?_
  unfold Builtin.«all»
  refine wpAny_bind (m := oneArg "all" _) (wpAny_pure ?_)
  have isg : s5.heap.IsGen ga gi := hog _ (I5.pin (ga, og) (List.mem_append_left _ hpn)).1
  refine wpAny_bind (wpAny_pyIter_gen isg ?_)
  have G0 := hgo cAll.Lk (fun a pins h p hp => by cases h; cases hp) s5 [] rfl I5 hgs fun b _ o e => e
  have loop := all_gx (X := Xg) (A := X.A) (R := fun r s' => ∃ b σ' H', r = .ok (.ret (.bool b)) ∧ L2.Inv Xg [] σ' H' s' ∧ Q (.bl b) H') hr.hd (by have := hr.dp; omega) hpn hog (fun b s' σ' H' I' q => ⟨b, σ', H', rfl, I', q⟩) n s5 G0
  rw [hXp, hXw] at loop
  refine wpAny_pure ⟨plainId_quiet F.plain_all_loop _, codeAny_mono loop fun r s' h => ?_⟩
  obtain ⟨b, σ', H', rfl, I', q⟩ := h
  exact ⟨.bl b, H', back _ _ _ _ I', rfl, q⟩
theorem pe_sumG {c P : Addr} {elt iter tg : Expr} {ifs : List Expr} {p pos gpos : Pos} {scope : Scope} {own : List (Str × Nat)} {k : Nat} {wi : TI} {g : TG} {tt : TT} {te : TE}
    (hc : X.calm = true) (hN : X.N.Nodup) (hr : Room (k + 1) X.A) (hgl : Gl X "sum") (hm : X.mg "sum" = none) (TB : GxR.TabB X.base X.mg c P) (hcode : X.env.code = .ref c) (ok : GenB X.N X.env.scope scope own) (hi : PI X tg iter wi)
    (hg : GBlks X k scope fun X' => PG X' tg g) (ht : GBlks X k scope fun X' => PTs X' ifs tt) (he : GBlks X k scope fun X' => PE X' elt te) (hs : ∀ v, genFold iter X.env v = pure v)
    (hst : starEach [.GeneratorExp elt [⟨tg, iter, ifs, 0⟩] scope gpos] X.env = (false, eval (.GeneratorExp elt [⟨tg, iter, ifs, 0⟩] scope gpos) X.env) :: starEach [] X.env := by rfl) :
    PE X (.Call (.Name "sum" p) [.GeneratorExp elt [⟨tg, iter, ifs, 0⟩] scope gpos] [] pos) (tGx P (cSum 0).take (cSum 0).fin (0 : Int) wi g tt te (own.map (·.2))) := by
  refine ⟨fun pins s σ H Q I h => ?_⟩
  refine wpAny_Call_Name_kw (ld_blt I hgl hm (u := .builtin "sum") (by decide +kernel) ?_)
  refine PyProof.Rows.callWith_builtin1 ?_ hst (by rfl)
  rw [hst]
  show wpAny _ _ (spliced ((false, eval (.GeneratorExp elt [⟨tg, iter, ifs, 0⟩] scope gpos) X.env) :: backTo pos (starEach [] X.env))) _ _ s
  refine Calls.spliced_cons (gen_made hc hN hr TB hcode ok hi hg ht he hs I h fun ga s5 hG => ?_)
  obtain ⟨Xg, fp, og, gi, n, σw, H2, gs, hXp, hXw, hpn, hog, I5, hfp, hgs, hgo, back⟩ := hG
  refine Calls.spliced_nil ?_
  refine call_function_tree F.kind_sum F.plain_sum F.entry_sum (F.args_sum1 _) ?_
  have isg : s5.heap.IsGen ga gi := hog _ (I5.pin (ga, og) (List.mem_append_left _ hpn)).1
  unfold Builtin.«sum»
  simp only [List.length_cons, List.length_nil]
  rw [if_neg (by decide)]
  refine wpAny_bind (wpAny_of_eq (show Builtin.Builtins.bindParams "sum" ["start"] 0 { } = pure [none] from rfl) ?_)
  refine wpAny_bind (wpAny_pyIter_gen isg ?_)
  refine wpAny_bind (wpAny_mkInt ?_)
  refine wpAny_bind (wpAny_pure ?_)
  simp only [List.forIn_cons, List.forIn_nil]
  refine wpAny_bind (wpAny_bind (wpAny_bind (wpAny_isInstance (T := "int") (b := false) (typeIs_int _ _ _) PySem.sub_int_str ?_)))
  simp only [Bool.false_eq_true, if_false]
  refine wpAny_pure (wpAny_bind (wpAny_bind (wpAny_isInstance (T := "int") (b := false) (typeIs_int _ _ _) PySem.sub_int_bytes ?_)))
  simp only [Bool.false_eq_true, if_false]
  refine wpAny_pure (wpAny_bind (wpAny_bind (wpAny_isInstance (T := "int") (b := false) (typeIs_int _ _ _) PySem.sub_int_bytearray ?_)))
  simp only [Bool.false_eq_true, if_false]
  refine wpAny_pure (wpAny_pure ?_)
  refine wpAny_bind (wpAny_newObj_type ?_)
  have nS : H2 s5.heap.objs.size = none := I5.hok.fresh (Nat.le_refl _)
  obtain ⟨q0, q1, q2, q3, q4, q5⟩ := I5.fpOk (Nat.le_refl _) nS
  have hS : (s5.heap.push (sumObj 0 s5.toks 0)).get? s5.heap.objs.size = some (sumObj 0 s5.toks 0) := Heap.get?_push_size _ rfl
  have J0 : L2.Inv Xg [] σw H2 { s5 with heap := s5.heap.push (sumObj 0 s5.toks 0), toks := s5.toks + 1 } := I5.kept fun b o e => Heap.get?_push_of_some _ e
  have J : L2.Inv Xg [(s5.heap.objs.size, sumObj 0 s5.toks 0)] σw H2 { s5 with heap := s5.heap.push (sumObj 0 s5.toks 0), toks := s5.toks + 1 } := J0.pins_of fun p hp => by
    cases List.mem_singleton.mp hp
    exact ⟨hS, nS, q1, q2, fun v z => by cases z⟩
  have hSf : s5.heap.objs.size ∉ fp := fun hm => Nat.lt_irrefl _ (hfp _ hm)
  have G0 := hgo (cSum s5.heap.objs.size).Lk (fun a pins h p hp b hb => by
    obtain ⟨t, c, rfl⟩ := h
    cases List.mem_singleton.mp hp
    exact fun z => hSf (by have z : s5.heap.objs.size = b := z; rw [z]; exact hb)) _ _ ⟨_, _, rfl⟩ J hgs fun b _ o e => Heap.get?_push_of_some _ e
  have loop := sum_gx (X := Xg) (A := X.A) (S := s5.heap.objs.size) (R := fun r s' => ∃ a t pins' σ' H', r = .ok (.ret (.int a t)) ∧ L2.Inv Xg pins' σ' H' s' ∧ Q (.int a) H') hr.hd (by have := hr.dp; omega) hpn hog (I5.sz) (fun x cc e => q4 x cc e) (fun p hp => q5 p (List.mem_append_left _ hp)) hSf
    (fun a t s' pins' σ' H' I' q => ⟨a, t, pins', σ', H', rfl, I', q⟩) n 0 _ 0 (.inl rfl) G0
  rw [hXp, hXw] at loop
  refine wpAny_pure ⟨plainId_quiet F.plain_sum_loop _, codeAny_mono loop fun r s' h => ?_⟩
  obtain ⟨a, t, pins', σ', H', rfl, I', q⟩ := h
  exact ⟨.int a, H', back _ _ _ _ I', ⟨t, rfl⟩, q⟩
end

theorem Grown.ok {w : World} {T : List Addr} {G H H' : Hp} {M : Mem} {P : Addr} (s : HS w T G H M) (g : Grown P H H') : HS w T G H' M ∧ Step G H M G H' M := by
  obtain ⟨ps, more, e, rfl, ht⟩ := g
  have nM : P ∉ adr M := fun h => by
    obtain ⟨ob, q⟩ := mem_adr h
    obtain ⟨o, eo, _, nt, _⟩ := (s.mem P ob q).2.there
    rw [e] at eo
    exact nt ps (Option.some.inj eo).symm
  refine ⟨⟨fun a o q => ?_, s.pur, s.nd, fun p ob q => ?_, fun P' hP' => ?_⟩, ⟨fun _ _ q => q, fun _ _ q => .inl q, fun a o q n => ?_, fun _ h => .inl h⟩⟩
  · by_cases z : a = P
    · subst z
      have := s.sub a o q
      rw [e] at this
      cases this
      exact absurd q (s.pur a ps)
    · rw [upd_ne z]
      exact s.sub a o q
  · obtain ⟨h1, h2⟩ := s.mem p ob q
    exact ⟨h1, h2.mono (fun _ _ q => q) (upd_ne fun z => nM (z ▸ adr_mem q))⟩
  · by_cases z : P' = P
    · subst z
      exact ⟨_, upd_same, ht⟩
    · obtain ⟨qs, h1, h2⟩ := s.tab P' hP'
      exact ⟨qs, by rw [upd_ne z]; exact h1, h2⟩
  · by_cases z : a = P
    · subst z
      rw [e] at q
      cases q
      exact .inr ⟨ps, more, rfl, upd_same⟩
    · rw [upd_ne z]
      exact .inl q
section
variable {X : Cx} {T : List Addr} {ρ : List (Option D)} {M M1 : Mem} {d : D} {elt iter tg : Expr} {ifs : List Expr} {pos gpos p tpos : Pos} {ds : List D} {ok : Mem → Prop} {S : Type} {take : S → V → Option (S ⊕ V)} {fin : S → V}
theorem gx_in {w : World} {P : Addr} {g : TG} {is : List Nat} {unp : D → Option (List D)} {vs : List Nat} {kp : Nat → Bool} {el : Nat → D} (st : Nat → S) (good : Nat → Prop) (done : Nat → Option V) (hP : P ∈ T) (ht : Tgt w g is unp) (hv : ∀ i ∈ is, i ∈ vs)
    (hok : ok M1) (hu : ∀ (i : Nat) (d : D), ds[i]? = some d → ∃ us, unp d = some us) (g0 : good 0)
    (hskip : ∀ i, i < ds.length → kp i = false → good i → st (i + 1) = st i ∧ good (i + 1))
    (htake : ∀ i y G, i < ds.length → kp i = true → good i → Dt w G y (el i) → match done i with
      | some z => take (st i) y = some (.inr z) ∧ ∀ G, Dt w G z d
      | none => take (st i) y = some (.inl (st (i + 1))) ∧ good (i + 1))
    (hfin : good ds.length → ∀ G, Dt w G (fin (st ds.length)) d) (σ : L2.St) (H : Hp) (Q : VK) (h : tE w T ρ M d M1 σ H Q) :
    tGx P take fin (st 0) (tI w T ρ M ds M1 ok) g (tLT w T (wipeD ρ vs) is unp ds (fun _ => M1) (fun _ => M1) kp) (tLE w T (wipeD ρ vs) is unp ds (fun _ => M1) (fun _ => M1) kp el) vs σ H Q := by
  obtain ⟨G, hs, sl, k⟩ := h
  refine ⟨G, hs, sl, fun J G1 H1 st1 hs1 it => ⟨hs1.tab P hP, fun H2 hg => ?_⟩⟩
  obtain ⟨hs2, st2⟩ := hg.ok hs1
  refine ⟨fun i m a H' => m = ds.length - i ∧ i ≤ ds.length ∧ a = st i ∧ good i ∧ ∃ G', Step G1 H1 M1 G' H' M1 ∧ HS w T G' H' M1, ⟨_, rfl, Nat.zero_le _, rfl, g0, G1, st2, hs2⟩, ?_⟩
  rintro i m a H' ⟨rfl, hle, rfl, hgd, G', st', hs'⟩
  by_cases hlt : i < ds.length
  · refine .inr ⟨it.go i G' H' M1 hlt st' hs' hok, fun a' H2' => ∃ m', m' < ds.length - i ∧ (m' = ds.length - (i + 1) ∧ i + 1 ≤ ds.length ∧ a' = st (i + 1) ∧ good (i + 1) ∧ ∃ G2, Step G1 H1 M1 G2 H2' M1 ∧ HS w T G2 H2' M1), fun a' H2' q => q, fun x H2' hy => ?_⟩
    have hd' : ds[i]? = some ds[i] := List.getElem?_eq_getElem hlt
    obtain ⟨us, hus⟩ := hu i _ hd'
    obtain ⟨G3, st3, hs3, r⟩ := it.yld i G' H' M1 x H2' _ st' hs' hok hd' hy
    refine ht.ok T x (L2.wipe σ vs) G3 H2' M1 _ _ us hs3 r hus fun σ3 hsl3 hw => ⟨?_, (i, ds[i], us), ⟨hd', hus⟩, G3, hs3, hsl3 _ (((sl.up st1.up).up (st'.up)).up st3.up |>.wipe vs), fun G4 H4 st4 hs4 => ?_⟩
    · rw [hw vs hv]
      exact wipe_wipe fun _ h => h
    · have sl4 : SL w G4 σ3 (setsD (wipeD ρ vs) is us) := (hsl3 _ (((sl.up st1.up).up (st'.up)).up st3.up |>.wipe vs)).up st4.up
      cases hk : kp i with
      | false =>
        dsimp only
        rw [if_neg Bool.false_ne_true]
        obtain ⟨e1, e2⟩ := hskip i hlt hk hgd
        exact ⟨_, by omega, rfl, hlt, e1.symm, e2, G4, (st'.trans st3).trans st4, hs4⟩
      | true =>
        dsimp only
        rw [if_pos rfl]
        refine ⟨(i, ds[i], us), ⟨hd', hus, hk⟩, G4, hs4, sl4, fun y G5 H5 st5 hs5 ry => ?_⟩
        have q := htake i y G5 hlt hk hgd ry
        cases hdn : done i with
        | some z =>
          rw [hdn] at q
          exact ⟨_, q.1, k z G5 H5 ((((st1.trans st').trans st3).trans st4).trans st5) hs5 (q.2 _)⟩
        | none =>
          rw [hdn] at q
          exact ⟨_, q.1, _, by omega, rfl, hlt, rfl, q.2, G5, ((st'.trans st3).trans st4).trans st5, hs5⟩
  · have e : i = ds.length := Nat.le_antisymm hle (Nat.le_of_not_lt hlt)
    subst e
    exact .inl ⟨it.stop G' H' M1 st' hs' hok, k _ G' H' (st1.trans st') hs' (hfin hgd G')⟩
/-- the facts of a def for its generator expressions -/
structure GK (X : Cx) (T : List Addr) (k : Nat) : Prop where
  ex : ∃ c P, GxR.TabB X.base X.mg c P ∧ X.env.code = .ref c ∧ P ∈ T
  hr : Room (k + 1) X.A
  calm : X.calm = true
  nd : X.N.Nodup
variable {g : TG} {is : List Nat} {unp : D → Option (List D)} {own : List (Str × Nat)} {k : Nat} {scope : Scope} {α : Type} {xs : List α} {enc : α → D} {us : α → List D} {kp el : α → Bool} {en : α → Int}
/-- the typed turns -/
structure GTy (ds : List D) (xs : List α) (enc : α → D) (unp : D → Option (List D)) (us : α → List D) : Prop where
  eq : ds = xs.map enc
  un : ∀ x, unp (enc x) = some (us x)
theorem GTy.at_ (t : GTy ds xs enc unp us) {i : Nat} {d : D} {u : List D} (h : ds[i]? = some d) (hu : unp d = some u) : ∃ x, xs[i]? = some x ∧ x ∈ xs ∧ u = us x := by
  rw [t.eq, List.getElem?_map] at h
  cases e : xs[i]? with
  | none => rw [e] at h; cases h
  | some x =>
    rw [e] at h
    cases h
    rw [t.un] at hu
    cases hu
    exact ⟨x, rfl, List.mem_of_getElem? e, rfl⟩
theorem GTy.len (t : GTy ds xs enc unp us) : ds.length = xs.length := by rw [t.eq, List.length_map]
theorem GTy.hu (t : GTy ds xs enc unp us) (i : Nat) (d : D) (h : ds[i]? = some d) : ∃ u, unp d = some u := by
  rw [t.eq, List.getElem?_map] at h
  cases e : xs[i]? with
  | none => rw [e] at h; cases h
  | some x => rw [e] at h; cases h; exact ⟨_, t.un x⟩
def atB (xs : List α) (f : α → Bool) (i : Nat) : Bool := match xs[i]? with
  | some x => f x
  | none => false
theorem atB_some {xs : List α} {f : α → Bool} {i : Nat} {x : α} (h : xs[i]? = some x) : atB xs f i = f x := by unfold atB; rw [h]
theorem gtt {kb : Nat} (t : GTy ds xs enc unp us) (h : ∀ x ∈ xs, GBlks X kb scope fun X' => PDTs X' T (setsD (wipeD ρ (own.map (·.2))) is (us x)) M1 ifs (kp x) M1) :
    GBlks X kb scope fun X' => PTs X' ifs (tLT X.w T (wipeD ρ (own.map (·.2))) is unp ds (fun _ => M1) (fun _ => M1) (atB xs kp)) := fun Ag s H C cl code fp pn hr => lt_in (X' := gcx X Ag s H (genEnv scope cl C code builtinsNs X.env) fp pn) fun i d u h1 h2 => by
  obtain ⟨x, e1, e2, rfl⟩ := t.at_ h1 h2
  rw [atB_some e1]
  exact h x e2 Ag s H C cl code fp pn hr
theorem gte {kb : Nat} {ed : α → D} {eld : Nat → D} (t : GTy ds xs enc unp us) (he : ∀ (i : Nat) x, xs[i]? = some x → eld i = ed x) (h : ∀ x ∈ xs, kp x = true → GBlks X kb scope fun X' => PD X' T (setsD (wipeD ρ (own.map (·.2))) is (us x)) M1 elt (ed x) M1) :
    GBlks X kb scope fun X' => PE X' elt (tLE X.w T (wipeD ρ (own.map (·.2))) is unp ds (fun _ => M1) (fun _ => M1) (atB xs kp) eld) := fun Ag s H C cl code fp pn hr => le_in (X' := gcx X Ag s H (genEnv scope cl C code builtinsNs X.env) fp pn) fun i d u h1 h2 h3 => by
  obtain ⟨x, e1, e2, rfl⟩ := t.at_ h1 h2
  rw [atB_some e1] at h3
  rw [he i x e1]
  exact h x e2 h3 Ag s H C cl code fp pn hr
theorem any_take {xs : List α} {f : α → Bool} {i : Nat} {x : α} (h : xs[i]? = some x) : (xs.take (i + 1)).any f = ((xs.take i).any f || f x) := by
  rw [List.take_add_one, h, List.any_append]
  simp
theorem all_take {xs : List α} {f : α → Bool} {i : Nat} {x : α} (h : xs[i]? = some x) : (xs.take (i + 1)).all f = ((xs.take i).all f && f x) := by
  rw [List.take_add_one, h, List.all_append]
  simp
theorem at_lt {xs : List α} {i : Nat} (h : i < xs.length) : ∃ x, xs[i]? = some x := ⟨_, List.getElem?_eq_getElem h⟩
theorem mem_take_any {xs : List α} {f : α → Bool} {i : Nat} {x : α} (h : xs[i]? = some x) (hf : f x = true) : xs.any f = true := List.any_eq_true.mpr ⟨x, List.mem_of_getElem? h, hf⟩
/-- any(..) -/
theorem pd_any (K : GK X T k) (hm : X.mg "any" = none) (hi : PDI X T ρ M tg iter ds M1 ok) (bk : GenB X.N X.env.scope scope own) (hg : GBlks X k scope fun X' => PG X' tg g) (ht : Tgt X.w g is unp) (hv : ∀ i ∈ is, i ∈ own.map (·.2)) (hok : ok M1) (t : GTy ds xs enc unp us)
    (htt : ∀ x ∈ xs, GBlks X k scope fun X' => PDTs X' T (setsD (wipeD ρ (own.map (·.2))) is (us x)) M1 ifs (kp x) M1)
    (hee : ∀ x ∈ xs, kp x = true → GBlks X k scope fun X' => PD X' T (setsD (wipeD ρ (own.map (·.2))) is (us x)) M1 elt (.bl (el x)) M1)
    (hgl : Gl X "any" := by rfl) (hs : ∀ v, genFold iter X.env v = pure v := by intro _; rfl)
    (hst : starEach [.GeneratorExp elt [⟨tg, iter, ifs, 0⟩] scope gpos] X.env = (false, eval (.GeneratorExp elt [⟨tg, iter, ifs, 0⟩] scope gpos) X.env) :: starEach [] X.env := by rfl) :
    PD X T ρ M (.Call (.Name "any" p) [.GeneratorExp elt [⟨tg, iter, ifs, 0⟩] scope gpos] [] pos) (.bl (xs.any fun x => kp x && el x)) M1 := by
  obtain ⟨c, P, TB, hcode, hP⟩ := K.ex
  refine (pe_anyG K.calm K.nd K.hr hgl hm TB hcode bk hi hg (gtt t htt) (gte (eld := fun i => .bl (atB xs el i)) t (fun i x h => by rw [atB_some h]) hee) hs hst).imp fun σ H Q h => ?_
  refine gx_in (S := Unit) (fun _ => ()) (fun i => (xs.take i).any (fun x => kp x && el x) = false) (fun i => if atB xs el i = true then some (.bl true) else none) hP ht hv hok t.hu rfl (fun i hi hk hgd => ⟨rfl, ?_⟩) (fun i y G hi hk hgd ry => ?_) (fun hgd G => ?_) σ H Q h
  · rw [t.len] at hi
    obtain ⟨x, hx⟩ := at_lt hi
    rw [atB_some hx] at hk
    show List.any _ _ = false
    rw [any_take hx, hgd, hk]
    rfl
  · rw [t.len] at hi
    obtain ⟨x, hx⟩ := at_lt hi
    rw [atB_some hx] at hk ry ⊢
    cases he : el x with
    | true =>
      rw [he] at ry
      cases ry
      refine ⟨rfl, fun G => ?_⟩
      rw [mem_take_any hx (f := fun x => kp x && el x) (by rw [hk, he]; rfl)]
      exact .bl true
    | false =>
      rw [he] at ry
      cases ry
      refine ⟨rfl, ?_⟩
      show List.any _ _ = false
      rw [any_take hx, hgd, hk, he]
      rfl
  · rw [t.len, List.take_length] at hgd
    rw [hgd]
    exact .bl false
theorem pd_all (K : GK X T k) (hm : X.mg "all" = none) (hi : PDI X T ρ M tg iter ds M1 ok) (bk : GenB X.N X.env.scope scope own) (hg : GBlks X k scope fun X' => PG X' tg g) (ht : Tgt X.w g is unp) (hv : ∀ i ∈ is, i ∈ own.map (·.2)) (hok : ok M1) (t : GTy ds xs enc unp us)
    (htt : ∀ x ∈ xs, GBlks X k scope fun X' => PDTs X' T (setsD (wipeD ρ (own.map (·.2))) is (us x)) M1 ifs (kp x) M1)
    (hee : ∀ x ∈ xs, kp x = true → GBlks X k scope fun X' => PD X' T (setsD (wipeD ρ (own.map (·.2))) is (us x)) M1 elt (.bl (el x)) M1)
    (hgl : Gl X "all" := by rfl) (hs : ∀ v, genFold iter X.env v = pure v := by intro _; rfl)
    (hst : starEach [.GeneratorExp elt [⟨tg, iter, ifs, 0⟩] scope gpos] X.env = (false, eval (.GeneratorExp elt [⟨tg, iter, ifs, 0⟩] scope gpos) X.env) :: starEach [] X.env := by rfl) :
    PD X T ρ M (.Call (.Name "all" p) [.GeneratorExp elt [⟨tg, iter, ifs, 0⟩] scope gpos] [] pos) (.bl (xs.all fun x => !kp x || el x)) M1 := by
  obtain ⟨c, P, TB, hcode, hP⟩ := K.ex
  refine (pe_allG K.calm K.nd K.hr hgl hm TB hcode bk hi hg (gtt t htt) (gte (eld := fun i => .bl (atB xs el i)) t (fun i x h => by rw [atB_some h]) hee) hs hst).imp fun σ H Q h => ?_
  refine gx_in (S := Unit) (fun _ => ()) (fun i => (xs.take i).all (fun x => !kp x || el x) = true) (fun i => if atB xs el i = true then none else some (.bl false)) hP ht hv hok t.hu rfl (fun i hi hk hgd => ⟨rfl, ?_⟩) (fun i y G hi hk hgd ry => ?_) (fun hgd G => ?_) σ H Q h
  · rw [t.len] at hi
    obtain ⟨x, hx⟩ := at_lt hi
    rw [atB_some hx] at hk
    show List.all _ _ = true
    rw [all_take hx, hgd, hk]
    rfl
  · rw [t.len] at hi
    obtain ⟨x, hx⟩ := at_lt hi
    rw [atB_some hx] at hk ry ⊢
    cases he : el x with
    | false =>
      rw [he] at ry
      cases ry
      refine ⟨rfl, fun G => ?_⟩
      have : xs.all (fun x => !kp x || el x) = false := by
        cases q : xs.all (fun x => !kp x || el x) with
        | false => rfl
        | true =>
          have := List.all_eq_true.mp q x (List.mem_of_getElem? hx)
          rw [hk, he] at this
          cases this
      rw [this]
      exact .bl false
    | true =>
      rw [he] at ry
      cases ry
      refine ⟨rfl, ?_⟩
      show List.all _ _ = true
      rw [all_take hx, hgd, hk, he]
      rfl
  · rw [t.len, List.take_length] at hgd
    rw [hgd]
    exact .bl true
/-- the sum of the kept ones -/
def sumIf (xs : List α) (kp : α → Bool) (en : α → Int) : Int := ((xs.filter kp).map en).sum
theorem sumIf_take {xs : List α} {i : Nat} {x : α} (h : xs[i]? = some x) : sumIf (xs.take (i + 1)) kp en = sumIf (xs.take i) kp en + (if kp x = true then en x else 0) := by
  unfold sumIf
  rw [List.take_add_one, h, List.filter_append, List.map_append, List.sum_append]
  cases e : kp x <;> simp [e]
def atI (xs : List α) (f : α → Int) (i : Nat) : Int := match xs[i]? with
  | some x => f x
  | none => 0
theorem atI_some {xs : List α} {f : α → Int} {i : Nat} {x : α} (h : xs[i]? = some x) : atI xs f i = f x := by unfold atI; rw [h]
theorem pd_sum (K : GK X T k) (hm : X.mg "sum" = none) (hi : PDI X T ρ M tg iter ds M1 ok) (bk : GenB X.N X.env.scope scope own) (hg : GBlks X k scope fun X' => PG X' tg g) (ht : Tgt X.w g is unp) (hv : ∀ i ∈ is, i ∈ own.map (·.2)) (hok : ok M1) (t : GTy ds xs enc unp us)
    (htt : ∀ x ∈ xs, GBlks X k scope fun X' => PDTs X' T (setsD (wipeD ρ (own.map (·.2))) is (us x)) M1 ifs (kp x) M1)
    (hee : ∀ x ∈ xs, kp x = true → GBlks X k scope fun X' => PD X' T (setsD (wipeD ρ (own.map (·.2))) is (us x)) M1 elt (.int (en x)) M1)
    (hgl : Gl X "sum" := by rfl) (hs : ∀ v, genFold iter X.env v = pure v := by intro _; rfl)
    (hst : starEach [.GeneratorExp elt [⟨tg, iter, ifs, 0⟩] scope gpos] X.env = (false, eval (.GeneratorExp elt [⟨tg, iter, ifs, 0⟩] scope gpos) X.env) :: starEach [] X.env := by rfl) :
    PD X T ρ M (.Call (.Name "sum" p) [.GeneratorExp elt [⟨tg, iter, ifs, 0⟩] scope gpos] [] pos) (.int (sumIf xs kp en)) M1 := by
  obtain ⟨c, P, TB, hcode, hP⟩ := K.ex
  refine (pe_sumG K.calm K.nd K.hr hgl hm TB hcode bk hi hg (gtt t htt) (gte (eld := fun i => .int (atI xs en i)) t (fun i x h => by rw [atI_some h]) hee) hs hst).imp fun σ H Q h => ?_
  refine gx_in (S := Int) (fun i => sumIf (xs.take i) kp en) (fun _ => True) (fun i => none) hP ht hv hok t.hu trivial (fun i hi hk hgd => ⟨?_, trivial⟩) (fun i y G hi hk hgd ry => ?_) (fun hgd G => ?_) σ H Q h
  · rw [t.len] at hi
    obtain ⟨x, hx⟩ := at_lt hi
    rw [atB_some hx] at hk
    rw [sumIf_take hx, hk]
    simp
  · rw [t.len] at hi
    obtain ⟨x, hx⟩ := at_lt hi
    rw [atB_some hx] at hk
    rw [atI_some hx] at ry
    cases ry
    refine ⟨?_, trivial⟩
    rw [sumIf_take hx, hk]
    rfl
  · rw [t.len, List.take_length]
    exact .int _
/-! typed list comprehensions -/
theorem given_ty {kp : α → Bool} {ed : α → D} (xs : List α) : ∀ {n : Nat}, n ≤ xs.length → given n (atB xs kp) (fun i => match xs[i]? with | some x => ed x | none => .non) = ((xs.take n).filter kp).map ed
  | 0, _ => rfl
  | n + 1, h => by
    obtain ⟨x, hx⟩ := at_lt (xs := xs) (i := n) h
    have ih := given_ty (kp := kp) (ed := ed) xs (n := n) (by omega)
    rw [List.take_add_one, hx, List.filter_append, List.map_append, ← ih]
    cases e : kp x with
    | true =>
      rw [given_yes (by rw [atB_some hx]; exact e)]
      simp [e, hx]
    | false =>
      rw [given_no (by rw [atB_some hx]; exact e)]
      simp [e]
theorem pd_lc {ed : α → D} (hi : PDI X T ρ M tg iter ds M1 ok) (hN : X.N.Nodup) (bk : BlkOk X.N X.env.scope scope own) (hg : Blks X scope fun X' => PG X' tg g) (ht : Tgt X.w g is unp) (hv : ∀ i ∈ is, i ∈ own.map (·.2)) (hok : ok M1) (t : GTy ds xs enc unp us) (hz : xs.length ≤ 16000000)
    (htt : ∀ x ∈ xs, Blks X scope fun X' => PDTs X' T (setsD (wipeD ρ (own.map (·.2))) is (us x)) M1 ifs (kp x) M1)
    (hee : ∀ x ∈ xs, kp x = true → Blks X scope fun X' => PD X' T (setsD (wipeD ρ (own.map (·.2))) is (us x)) M1 elt (ed x) M1)
    (hc : X.calm = true := by rfl) (hs : ∀ x, foldedSetIterable iter X.env x = pure x := by intro _; rfl) : PD X T ρ M (.ListComp elt [⟨tg, iter, ifs, 0⟩] scope pos) (.lst ((xs.filter kp).map ed)) M1 := by
  refine pd_cast (pd_lcI (Ms := fun _ => M1) (Mt := fun _ => M1) (kp := atB xs kp) (el := fun i => match xs[i]? with | some x => ed x | none => .non) hi hN bk hg ht hv rfl (fun _ _ => hok) t.hu (fun _ _ _ => rfl) (by rw [t.len]; exact hz) (fun i d u h1 h2 => ?_) (fun i d u h1 h2 h3 => ?_) hc hs) ?_
  · obtain ⟨x, e1, e2, rfl⟩ := t.at_ h1 h2
    rw [atB_some e1]
    exact htt x e2
  · obtain ⟨x, e1, e2, rfl⟩ := t.at_ h1 h2
    rw [atB_some e1] at h3
    rw [e1]
    exact hee x e2 h3
  · rw [t.len, given_ty xs (Nat.le_refl _), List.take_length]
theorem pb_setLc {ed : α → D} {rest : List Stmt} {Nx : List (Option D) → Mem → Prop} {Rt : D → Mem → Prop} (i : Nat) {y : Str} {py spos : Pos} (hi : PDI X T ρ M tg iter ds M1 ok) (hN : X.N.Nodup) (bk : BlkOk X.N X.env.scope scope own) (hg : Blks X scope fun X' => PG X' tg g) (ht : Tgt X.w g is unp) (hv : ∀ i ∈ is, i ∈ own.map (·.2)) (hok : ok M1) (t : GTy ds xs enc unp us) (hz : xs.length ≤ 16000000)
    (htt : ∀ x ∈ xs, Blks X scope fun X' => PDTs X' T (setsD (wipeD ρ (own.map (·.2))) is (us x)) M1 ifs (kp x) M1)
    (hee : ∀ x ∈ xs, kp x = true → Blks X scope fun X' => PD X' T (setsD (wipeD ρ (own.map (·.2))) is (us x)) M1 elt (ed x) M1)
    (k : PB X T (ρ.set i (some (.lst ((xs.filter kp).map ed)))) M1 rest Nx Rt)
    (hy : X.N[i]? = some y := by rfl) (hyl : X.env.scope.names.lookup y = some .local := by rfl) (hsw : swapsWith (.ListComp elt [⟨tg, iter, ifs, 0⟩] scope pos) (some (.Name y py)) spos.line X.env = pure true := by exact sw_true rfl rfl rfl (by decide +kernel))
    (hc : X.calm = true := by rfl) (hs : ∀ x, foldedSetIterable iter X.env x = pure x := by intro _; rfl) : PB X T ρ M (.Assign [.Name y py] (.ListComp elt [⟨tg, iter, ifs, 0⟩] scope pos) spos :: rest) Nx Rt := by
  refine pb_setLcI (Ms := fun _ => M1) (Mt := fun _ => M1) (kp := atB xs kp) (el := fun i => match xs[i]? with | some x => ed x | none => .non) i hi hN bk hg ht hv rfl (fun _ _ => hok) t.hu (fun _ _ _ => rfl) (by rw [t.len]; exact hz) (fun i d u h1 h2 => ?_) (fun i d u h1 h2 h3 => ?_) ?_ hy hyl hsw hc hs
  · obtain ⟨x, e1, e2, rfl⟩ := t.at_ h1 h2
    rw [atB_some e1]
    exact htt x e2
  · obtain ⟨x, e1, e2, rfl⟩ := t.at_ h1 h2
    rw [atB_some e1] at h3
    rw [e1]
    exact hee x e2 h3
  · rw [t.len, given_ty xs (Nat.le_refl _), List.take_length]
    exact k
/-- everything is kept -/
theorem filter_yes {l : List α} : l.filter (fun _ => true) = l := List.filter_eq_self.mpr fun _ _ => rfl
end
end LW

set_option Elab.async false
set_option linter.all false
set_option maxRecDepth 100000
set_option maxHeartbeats 4000000
/-! LI: stores, methods of lists, == of data, in. -/
namespace LW
open PySem PySem.Spec PyProof.Rows L2
section
variable {X : Cx} {T : List Addr} {ρ ρ' : List (Option D)} {M M1 M2 M3 : Mem} {d da db dc : D} {a b c e o v : Expr} {es : List Expr} {pos tpos p : Pos} {ds : List D} {R R' : D → Mem → Prop}
  {rest : List Stmt} {Nx : List (Option D) → Mem → Prop} {Rt : D → Mem → Prop}
/-! ### fields -/
theorem pb1_fldR {C q : Addr} {f : Str} {j : Nat} (hv : PDR X T ρ M v R) (ho : ∀ m, PD X T ρ m o (.ref q) m) (hc : Cls X.K C) (hn : NoAttr X.K C f)
    (k : ∀ d m, R d m → ∃ fs, m[j]? = some (some (q, .obj C fs)) ∧ fs.length < 1000 ∧ Nx ρ (m.set j (some (q, .obj C (putD f d fs)))))
    (hs : swapsWith v (some (.Attribute o f tpos)) pos.line X.env = pure false := by rfl) : PB1 X T ρ M (.Assign [.Attribute o f tpos] v pos) Nx Rt := by
  refine PS.imp (ps_fld (ta := fun σ H Q => ∃ m, tE X.w T ρ m (.ref q) m σ H Q) (PE.ex ho) hv hs) fun Dd σ H ⟨G, hs', sl, k1, k2⟩ => ⟨G, hs', sl, fun y G1 H1 d m r st1 hs1 rd => ?_⟩
  refine ⟨m, G1, hs1, sl.up st1.up, fun x G2 H2 st2 hs2 rx => ?_⟩
  cases rx
  obtain ⟨fs, hj, hl, hk⟩ := k d m r
  obtain ⟨g0, dx, ws, e, rw'⟩ := hs2.mem q _ (mem_of hj)
  obtain ⟨a3, t3⟩ := hs2.put (ob' := .obj C (putD f d fs)) (o := .ins C dx (putF f y ws)) hj (fun _ z => by cases z) fun H' e' => ⟨dx, _, e', rw'.put (rd.up st2.up)⟩
  exact ⟨q, C, dx, ws, rfl, e, hc, hn, by rw [rw'.length]; exact hl, k1 σ G2 _ ρ _ hk ((st1.trans st2).trans t3) a3 (sl.up (fun a o e => st2.up a o (st1.up a o e)))⟩
theorem pb_fld {C q : Addr} {f : Str} {fs : List (Str × D)} (j : Nat) (hv : PD X T ρ M v d M1) (ho : ∀ m, PD X T ρ m o (.ref q) m) (hc : Cls X.K C) (hn : NoAttr X.K C f) (k : PB X T ρ (M1.set j (some (q, .obj C (putD f d fs)))) rest Nx Rt)
    (hj : M1[j]? = some (some (q, .obj C fs)) := by rfl) (hl : fs.length < 1000 := by exact Nat.lt_of_lt_of_le (Nat.lt_succ_self _) (Nat.le_of_ble_eq_true rfl)) (hs : swapsWith v (some (.Attribute o f tpos)) pos.line X.env = pure false := by rfl) : PB X T ρ M (.Assign [.Attribute o f tpos] v pos :: rest) Nx Rt :=
  pb_seq (Nx1 := fun ρ' m => ρ' = ρ ∧ m = M1.set j (some (q, .obj C (putD f d fs)))) (pb1_fldR (j := j) (pdr_of hv) ho hc hn (fun d' m ⟨e1, e2⟩ => by subst e1; subst e2; exact ⟨fs, hj, hl, rfl, rfl⟩) hs) fun ρ' m ⟨e1, e2⟩ => by subst e1; subst e2; exact k
/-- o.f op= v -/
theorem pb_fldaug {C q : Addr} {f : Str} {fs : List (Str × D)} {op : Operator} {r : R2} (j : Nat) (ho : PD X T ρ M o (.ref q) M) (hj0 : M[j]? = some (some (q, .obj C fs))) (hf : fs.lookup f = some da) (hv : PD X T ρ M v db M) (hop : OpR X (inplaceOp op) r) (hr : OkR2 X.w T M r da db dc)
    (hc : Cls X.K C) (hn : NoAttr X.K C f) (hl : fs.length < 1000) (k : PB X T ρ (M.set j (some (q, .obj C (putD f dc fs)))) rest Nx Rt) : PB X T ρ M (.AugAssign (.Attribute o f tpos) op v pos :: rest) Nx Rt := by
  refine pb_seq (Nx1 := fun ρ' m => ρ' = ρ ∧ m = M.set j (some (q, .obj C (putD f dc fs)))) (PS.imp (ps_fldaug (rd := r) ho hv hop) fun Dd σ H ⟨G, hs', sl, k1, k2⟩ => ?_) fun ρ' m ⟨e1, e2⟩ => by subst e1; subst e2; exact k
  refine ⟨G, hs', sl, fun x G1 H1 st1 hs1 rx => ?_⟩
  cases rx
  obtain ⟨g0, dx, ws, e, rw'⟩ := hs1.mem q _ (mem_of hj0)
  obtain ⟨u, hu, ru⟩ := rw'.get hf
  refine ⟨q, C, dx, ws, u, rfl, e, hc, hn, hu, G1, hs1, sl.up st1.up, fun y G2 H2 st2 hs2 ry => ?_⟩
  refine hr G2 H2 u y _ hs2 (ru.up st2.up) ry fun z G3 H3 st3 hs3 rz => ?_
  obtain ⟨g3, dx', ws', e', rw3⟩ := hs3.mem q _ (mem_of hj0)
  obtain ⟨a3, t3⟩ := hs3.put (ob' := .obj C (putD f dc fs)) (o := .ins C dx' (putF f z ws')) hj0 (fun _ z => by cases z) fun H' e' => ⟨dx', _, e', rw3.put rz⟩
  exact ⟨dx', ws', e', by rw [rw3.length]; exact hl, k1 σ G3 _ ρ _ ⟨rfl, rfl⟩ (((st1.trans st2).trans st3).trans t3) a3 (sl.up fun a o e => st3.up a o (st2.up a o (st1.up a o e)))⟩
/-- x op= e -/
theorem pb_aug (i : Nat) {x : Str} {op : Operator} {r : R2} (hN : X.N.Nodup) (he : PD X T ρ M e db M1) (hop : OpR X (inplaceOp op) r) (hr : OkR2 X.w T M1 r da db dc) (k : PB X T (ρ.set i (some dc)) M1 rest Nx Rt) (hd : ρ[i]? = some (some da) := by rfl) (hi : X.N[i]? = some x := by rfl)
    (hx : Loc X.env.scope x := by first | exact Or.inl rfl | exact Or.inr rfl) (hf : X.fn x = true ∨ X.env.scope.names.lookup x = some .local := by first | exact .inl rfl | exact .inr rfl | assumption) : PB X T ρ M (.AugAssign (.Name x p) op e pos :: rest) Nx Rt := by
  refine pb_seq (Nx1 := fun ρ' m => ρ' = ρ.set i (some dc) ∧ m = M1) (PS.imp (ps_aug (ti := r) hN hi hx he hop hf) fun Dd σ H ⟨G, hs', sl, k1, k2⟩ => ?_) fun ρ' m ⟨e1, e2⟩ => by subst e1; subst e2; exact k
  obtain ⟨u, hu, ru⟩ := sl.at_ i da hd
  refine ⟨u, hu, G, hs', sl, fun y G1 H1 st1 hs1 ry => hr G1 H1 u y _ hs1 (ru.up st1.up) ry fun z G2 H2 st2 hs2 rz => ?_⟩
  exact k1 _ G2 H2 _ _ ⟨rfl, rfl⟩ (st1.trans st2) hs2 ((sl.up fun a o e => st2.up a o (st1.up a o e)).set i rz)
/-- xs[i] = v, xs ours -/
theorem pb_setix {q : Addr} {i : Int} {n : Nat} (j : Nat) (hv : PD X T ρ M v d M1) (ho : PD X T ρ M1 o (.ref q) M1) (hi : PD X T ρ M1 e (.int i) M1) (hj : M1[j]? = some (some (q, .lst ds))) (hn : ixN ds.length i = some n) (k : PB X T ρ (M1.set j (some (q, .lst (ds.set n d)))) rest Nx Rt)
    (hs : swapsWithSole [.Subscript o e p] v pos.line X.env = pure false := by rfl) (hw : swappedStores [.Subscript o e p] v X.env = pure none := by rfl) (h1 : (assignEach [.Subscript o e p] X.env).map (·.2) = [assign (.Subscript o e p) X.env] := by rfl)
    (ha : ∀ v, assign (.Subscript o e p) X.env v = (do
      let ov ← holding [v] (eval o X.env)
      let iv ← holding [v, ov] (eval e X.env)
      standAt p
      holding [v, ov, iv] (setItem ov iv v)
      release [v, ov, iv] []) := by intro _; rfl) : PB X T ρ M (.Assign [.Subscript o e p] v pos :: rest) Nx Rt := by
  refine pb_seq (Nx1 := fun ρ' m => ρ' = ρ ∧ m = M1.set j (some (q, .lst (ds.set n d)))) (PS.imp (ps_asg hv (pg_sub ho hi set_list ha) hs hw h1) fun Dd σ H ⟨G, hs', sl, k1, k2⟩ => ?_) fun ρ' m ⟨e1, e2⟩ => by subst e1; subst e2; exact k
  refine ⟨G, hs', sl, fun x G1 H1 st1 hs1 rx => ⟨G1, hs1, sl.up st1.up, fun y G2 H2 st2 hs2 ry => ⟨G2, hs2, (sl.up st1.up).up st2.up, fun z G3 H3 st3 hs3 rz => ?_⟩⟩⟩
  cases ry
  cases rz
  obtain ⟨g3, xs, e', rw3⟩ := hs3.mem q _ (mem_of hj)
  obtain ⟨a3, t3⟩ := hs3.put (ob' := .lst (ds.set n d)) (o := .lst (xs.set n x)) hj (fun _ z => by cases z) fun H' e' => ⟨_, e', rw3.set (rx.up fun a o e => st3.up a o (st2.up a o e)) n⟩
  exact ⟨q, xs, i, n, rfl, rfl, e', by rw [rw3.length]; exact hn, k1 σ G3 _ ρ _ ⟨rfl, rfl⟩ (((st1.trans st2).trans st3).trans t3) a3 (sl.up fun a o e => st3.up a o (st2.up a o (st1.up a o e)))⟩
/-! ### a new list that is ours -/
theorem pdr_lst (h : PDL X T ρ M es ds M1) (hl : ds.length ≤ sizeLine := by exact Nat.le_of_ble_eq_true rfl) : PDR X T ρ M (.List es pos) (fun d m => ∃ q, d = .ref q ∧ m = M1 ++ [some (q, .lst ds)]) :=
  (pe_lst h).imp fun σ H Q ⟨G, hs, sl, k⟩ => ⟨G, hs, sl, fun vs G1 H1 st1 hs1 r1 => ⟨by rw [r1.length]; exact hl, fun q hq => by
    obtain ⟨a1, t1⟩ := hs1.own (ob := .lst ds) (o := .lst vs) hq (fun _ z => by cases z) fun H' e => ⟨_, e, r1⟩
    exact k _ _ _ _ _ ⟨q, rfl, rfl⟩ (st1.trans t1) a1 (.ref q)⟩⟩
/-- what is ours becomes a datum -/
theorem pdr_freeze (h : PDR X T ρ M e R) (k : ∀ d m, R d m → ∃ q C fs, d = .ref q ∧ m = M1 ++ [some (q, .obj C fs)] ∧ R' (.obj C fs) M1) : PDR X T ρ M e R' :=
  h.imp fun σ H Q ⟨G, hs, sl, kk⟩ => ⟨G, hs, sl, fun v G' H' d m r st hs' rd => by
    obtain ⟨q, C, fs, rfl, rfl, hR⟩ := k d m r
    have hj : (M1 ++ [some (q, Ob.obj C fs)])[M1.length]? = some (some (q, .obj C fs)) := by
      rw [List.getElem?_append_right (Nat.le_refl _), Nat.sub_self]
      rfl
    obtain ⟨g0, dx, ws, e', rw'⟩ := hs'.mem q _ (mem_of hj)
    obtain ⟨a6, t6⟩ := hs'.freeze hj e' fun _ z => by cases z
    have hset : (M1 ++ [some (q, Ob.obj C fs)]).set M1.length none = M1 ++ [none] := by
      rw [List.set_append_right _ _ (Nat.le_refl _), Nat.sub_self]
      rfl
    rw [hset] at a6 t6
    have t7 := st.trans t6
    cases rd
    exact kk _ _ H' _ _ hR ⟨t7.up, t7.new, t7.keep, fun a h => t7.adr_ a (by rw [adr_app]; exact List.mem_append_left _ h)⟩ a6.left (.obj upd_same (rw'.up (up_upd g0)))⟩
/-! ### methods by values -/
def OkM (w : World) (T : List Addr) (M : Mem) (r : V → List V → Hp → VK → Prop) (da : D) (ds : List D) (d : D) (M' : Mem) : Prop := ∀ (G H : Hp) (v : V) (us : List V) (Q : VK), HS w T G H M → Dt w G v da → DtL w G us ds →
  (∀ z G' H', Step G H M G' H' M' → HS w T G' H' M' → Dt w G' z d → Q z H') → r v us H Q
def tyD (T : String) (x : V) (H : Hp) : Prop := (T = "list" ∧ ∃ p xs, x = .ref p ∧ H p = some (.lst xs)) ∨ (T = "dict" ∧ ∃ p L, x = .ref p ∧ Rd H p (dicO p L)) ∨ (T = "str" ∧ ∃ z, x = .str z)
theorem rd_ok {X : Cx} {pins : List (Addr × Obj)} {σ : L2.St} {H : Hp} {s : Shared} {a : Addr} {u : HO} (I : Inv X pins σ H s) : Rd H a u → ObjOk X.prog X.w H s.heap a u
  | .inl e => I.hok a _ e
  | .inr ⟨_, e⟩ => (I.hok a _ e).2
theorem tyD_ok {ty : String} : TyOk X ty (tyD ty) := by
  intro pins σ H s x v I r h
  rcases h with ⟨rfl, p, xs, rfl, e⟩ | ⟨rfl, p, L, rfl, e⟩ | ⟨rfl, z, rfl⟩
  · cases r
    obtain ⟨z, its, n, rr, e'⟩ := I.hok p _ e
    refine ⟨⟨_, e', rfl⟩, fun a ea => ?_⟩
    cases ea
    exact ⟨_, e', rfl⟩
  · cases r
    obtain ⟨⟨es, ep, e', _⟩, _⟩ := rd_ok I e
    refine ⟨⟨_, e', rfl⟩, fun a ea => ?_⟩
    cases ea
    exact ⟨_, e', rfl⟩
  · obtain ⟨t, rfl⟩ := r
    exact ⟨typeIs_str s z t, fun _ e => nomatch e⟩
theorem pd_m {ty id : String} {name : Str} {apos : Pos} {r : V → List V → Hp → VK → Prop} (pa : PlainAttrs ty) (slot : Slot ty name id) (hty : typeOf (.builtin id) = pure (.type "method_descriptor")) (hm : MtR X id r) (ho : PD X T ρ M o da M1) (ha : PDL X T ρ M1 (e :: es) ds M2)
    (ht : ∀ (G H : Hp) (v : V), HS X.w T G H M1 → Dt X.w G v da → tyD ty v H) (hr : OkM X.w T M2 r da ds d M3)
    (hbase : attributeBase o name X.env (eval o X.env) = eval o X.env := by rfl)
    (hfew : ((backTo pos (starEach (e :: es) X.env)).all (fun x => !x.1) && (backToKw pos (keywordEach [] X.env)).all (fun x => x.1.isSome)
      && decide ((e :: es).length + ([] : List Keyword).length + (if ([] : List Keyword).isEmpty then 0 else 1) < 30)) = true := by rfl)
    (hline : (apos.endLine == pos.line) = true := by rfl) (hs : starEach (e :: es) X.env = (false, eval e X.env) :: starEach es X.env := by rfl) (hplain : (backTo pos (starEach es X.env)).any (·.1) = false := by rfl) :
    PD X T ρ M (.Call (.Attribute o name apos) (e :: es) [] pos) d M3 :=
  (pe_mG (ty := tyD ty) tyD_ok pa slot hty hm ho ha hbase hfew hline hs hplain).imp fun σ H Q ⟨G, hs, sl, k⟩ => ⟨G, hs, sl, fun v G1 H1 st1 hs1 r1 => ⟨ht G1 H1 v hs1 r1, G1, hs1, sl.up st1.up, fun us G2 H2 st2 hs2 r2 =>
    hr G2 H2 v us Q hs2 (r1.up st2.up) r2 fun z G' H' st hs' rz => k z G' H' ((st1.trans st2).trans st) hs' rz⟩⟩
theorem pd_m0 {ty id : String} {name : Str} {apos : Pos} {r : V → List V → Hp → VK → Prop} (pa : PlainAttrs ty) (slot : Slot ty name id) (hty : typeOf (.builtin id) = pure (.type "method_descriptor")) (hm : MtR X id r) (ho : PD X T ρ M o da M1)
    (ht : ∀ (G H : Hp) (v : V), HS X.w T G H M1 → Dt X.w G v da → tyD ty v H) (hr : OkM X.w T M1 r da [] d M3)
    (hbase : attributeBase o name X.env (eval o X.env) = eval o X.env := by rfl) (hline : (apos.endLine == pos.line) = true := by rfl) :
    PD X T ρ M (.Call (.Attribute o name apos) [] [] pos) d M3 :=
  (pe_mG0 (ty := tyD ty) tyD_ok pa slot hty hm ho hbase hline).imp fun σ H Q ⟨G, hs, sl, k⟩ => ⟨G, hs, sl, fun v G1 H1 st1 hs1 r1 => ⟨ht G1 H1 v hs1 r1,
    hr G1 H1 v [] Q hs1 r1 .nil fun z G' H' st hs' rz => k z G' H' (st1.trans st) hs' rz⟩⟩
theorem own_list {w : World} {j : Nat} {q : Addr} (hj : M[j]? = some (some (q, .lst ds))) (G H : Hp) (v : V) (hs : HS w T G H M) (r : Dt w G v (.ref q)) : tyD "list" v H := by
  cases r
  obtain ⟨_, xs, e, _⟩ := hs.mem q _ (mem_of hj)
  exact .inl ⟨rfl, q, xs, rfl, e⟩
/-- xs.append(e) -/
theorem pd_append {q : Addr} {apos : Pos} (j : Nat) (ho : PD X T ρ M o (.ref q) M1) (ha : PD X T ρ M1 e d M2) (hj1 : ∃ ds', M1[j]? = some (some (q, .lst ds'))) (hj : M2[j]? = some (some (q, .lst ds))) (hz : ds.length < sizeLine)
    (hbase : attributeBase o "append" X.env (eval o X.env) = eval o X.env := by rfl)
    (hfew : ((backTo pos (starEach [e] X.env)).all (fun x => !x.1) && (backToKw pos (keywordEach [] X.env)).all (fun x => x.1.isSome)
      && decide ([e].length + ([] : List Keyword).length + (if ([] : List Keyword).isEmpty then 0 else 1) < 30)) = true := by rfl)
    (hline : (apos.endLine == pos.line) = true := by rfl) (hs : starEach [e] X.env = (false, eval e X.env) :: starEach [] X.env := by rfl) : PD X T ρ M (.Call (.Attribute o "append" apos) [e] [] pos) .non (M2.set j (some (q, .lst (ds ++ [d])))) := by
  obtain ⟨ds', hj1⟩ := hj1
  refine pd_m F.plainAttrs_list F.slot_list_append rfl mt_append ho (pdl_1 ha hs) (own_list hj1) (fun G H v us Q hs' r1 r2 k => ?_) hbase hfew hline hs rfl
  cases r1
  obtain ⟨u, rfl, ru⟩ := r2.one
  obtain ⟨g0, xs, e', rw'⟩ := hs'.mem q _ (mem_of hj)
  obtain ⟨a3, t3⟩ := hs'.put (ob' := .lst (ds ++ [d])) (o := .lst (xs ++ [u])) hj (fun _ z => by cases z) fun H' e' => ⟨_, e', rw'.app (.cons ru .nil)⟩
  exact ⟨q, xs, u, rfl, rfl, e', by rw [rw'.length]; exact hz, k _ _ _ t3 a3 .non⟩
/-! ### lists of arguments that are known by a relation -/
def tELR (w : World) (T : List Addr) (ρ : List (Option D)) (M : Mem) (R : List D → Mem → Prop) : TA := fun σ H Q => ∃ G, HS w T G H M ∧ SL w G σ ρ ∧
  ∀ vs G' H' ds M', R ds M' → Step G H M G' H' M' → HS w T G' H' M' → DtL w G' vs ds → Q vs H'
abbrev PDLR (X : Cx) (T : List Addr) (ρ : List (Option D)) (M : Mem) (es : List Expr) (R : List D → Mem → Prop) : Prop := PA X es (tELR X.w T ρ M R)
theorem pdlr_nil {R : List D → Mem → Prop} (h : R [] M) : PDLR X T ρ M [] R := PA.imp pa_nil fun σ H Q ⟨G, hs, sl, k⟩ => k [] G H [] M h (Step.refl _ _ _) hs .nil
theorem _root_.L2.PA.ex {X : Cx} {e : List Expr} {α : Type} {t : α → TA} (h : ∀ x, PA X e (t x)) : PA X e (fun σ H Q => ∃ x, t x σ H Q) :=
  ⟨fun pos pins s σ H Q I ⟨x, q⟩ => (h x).run pos pins s σ H Q I q⟩
theorem _root_.L2.PA.exB {X : Cx} {e : List Expr} {t : TA} {P : Prop} (h : P → PA X e t) : PA X e (fun σ H Q => P ∧ t σ H Q) :=
  ⟨fun pos pins s σ H Q I q => (h q.1).run pos pins s σ H Q I q.2⟩
theorem pdlr_cons {RL : List D → Mem → Prop} (h : PDR X T ρ M e R) (r : ∀ d m, R d m → PDLR X T ρ m es (fun ds m' => RL (d :: ds) m')) (hs : starEach (e :: es) X.env = (false, eval e X.env) :: starEach es X.env := by rfl) : PDLR X T ρ M (e :: es) RL :=
  PA.imp (pa_cons h (PA.ex fun (x : D × Mem) => PA.exB (P := R x.1 x.2) (r x.1 x.2)) hs) fun σ H Q ⟨G, hs, sl, k⟩ => ⟨G, hs, sl, fun v G1 H1 d m rd st1 hs1 r1 => ⟨(d, m), rd, G1, hs1, sl.up st1.up, fun vs G2 H2 ds m' rl st2 hs2 r2 => k (v :: vs) G2 H2 (d :: ds) m' rl (st1.trans st2) hs2 (.cons (r1.up st2.up) r2)⟩⟩
theorem pdlr_of (h : PDL X T ρ M es ds M1) : PDLR X T ρ M es (fun ds' m => ds' = ds ∧ m = M1) :=
  PA.imp h fun σ H Q ⟨G, hs, sl, k⟩ => ⟨G, hs, sl, fun vs G' H' st hs' rd => k vs G' H' ds M1 ⟨rfl, rfl⟩ st hs' rd⟩
/-- x, y = a, b -/
theorem pb_parR {i j : Nat} {x y : Str} {px py pt pt2 : Pos} {kt k2} {RL : List D → Mem → Prop} (ha : PDLR X T ρ M [a, b] RL) (hN : X.N.Nodup) (k : ∀ d1 d2 m, RL [d1, d2] m → PB X T ((ρ.set i (some d1)).set j (some d2)) m rest Nx Rt) (hr : ∀ ds m, RL ds m → ds.length = 2)
    (hi : X.N[i]? = some x := by rfl) (hj : X.N[j]? = some y := by rfl) (hij : i ≠ j := by decide) (hx : X.env.scope.names.lookup x = some .local := by rfl) (hy : X.env.scope.names.lookup y = some .local := by rfl)
    (hw : swappedStores [.Tuple [.Name x px, .Name y py] kt pt] (.Tuple [a, b] k2 pt2) X.env = pure (some [x, y]) := by rfl) (hc : X.calm = true := by rfl)
    (hs : swapsWithSole [.Tuple [.Name x px, .Name y py] kt pt] (.Tuple [a, b] k2 pt2) pos.line X.env = pure false := by rfl) : PB X T ρ M (.Assign [.Tuple [.Name x px, .Name y py] kt pt] (.Tuple [a, b] k2 pt2) pos :: rest) Nx Rt :=
  pb_seq (Nx1 := fun ρ' m => ∃ d1 d2, RL [d1, d2] m ∧ ρ' = (ρ.set i (some d1)).set j (some d2)) (PS.imp (ps_par hc hN hi hj hij hx hy ha hw hs) fun Dd σ H ⟨G, hs', sl, k1, k2⟩ => ⟨G, hs', sl, fun vs G1 H1 ds m rl st1 hs1 rd => by
    match ds, hr ds m rl, rl, rd with
    | [d1, d2], _, rl, rd =>
      obtain ⟨v, u, rfl, r1, r2⟩ := rd.two
      exact ⟨v, u, rfl, k1 _ G1 H1 _ m ⟨d1, d2, rl, rfl⟩ st1 hs1 (((sl.up st1.up).set i r1).set j r2)⟩⟩) fun ρ' m ⟨d1, d2, rl, e⟩ => by subst e; exact k d1 d2 m rl
theorem pb_par (i j : Nat) {x y : Str} {px py pt pt2 : Pos} {kt k2} {d1 d2 : D} (ha : PDL X T ρ M [a, b] [d1, d2] M1) (hN : X.N.Nodup) (k : PB X T ((ρ.set i (some d1)).set j (some d2)) M1 rest Nx Rt)
    (hi : X.N[i]? = some x := by rfl) (hj : X.N[j]? = some y := by rfl) (hij : i ≠ j := by decide) (hx : X.env.scope.names.lookup x = some .local := by rfl) (hy : X.env.scope.names.lookup y = some .local := by rfl)
    (hw : swappedStores [.Tuple [.Name x px, .Name y py] kt pt] (.Tuple [a, b] k2 pt2) X.env = pure (some [x, y]) := by rfl) (hc : X.calm = true := by rfl)
    (hs : swapsWithSole [.Tuple [.Name x px, .Name y py] kt pt] (.Tuple [a, b] k2 pt2) pos.line X.env = pure false := by rfl) : PB X T ρ M (.Assign [.Tuple [.Name x px, .Name y py] kt pt] (.Tuple [a, b] k2 pt2) pos :: rest) Nx Rt :=
  pb_parR (pdlr_of ha) hN (fun e1 e2 m ⟨q1, q2⟩ => by cases q1; subst q2; exact k) (fun ds m ⟨q, _⟩ => by rw [q]; rfl) hi hj hij hx hy hw hc hs
theorem DtL.three {w : World} {G : Hp} {vs : List V} {d d' d2 : D} (r : DtL w G vs [d, d', d2]) : ∃ v u z, vs = [v, u, z] ∧ Dt w G v d ∧ Dt w G u d' ∧ Dt w G z d2 := by
  cases r with
  | cons h t =>
    obtain ⟨u, z, rfl, h2, h3⟩ := t.two
    exact ⟨_, u, z, rfl, h, h2, h3⟩
theorem pb_par3R (i j l : Nat) {x y z : Str} {px py pz pt pt2 : Pos} {kt k2} {RL : List D → Mem → Prop} (ha : PDLR X T ρ M [a, b, c] RL) (hN : X.N.Nodup) (k : ∀ d1 d2 d3 m, RL [d1, d2, d3] m → PB X T (((ρ.set i (some d1)).set j (some d2)).set l (some d3)) m rest Nx Rt) (hr : ∀ ds m, RL ds m → ds.length = 3)
    (hi : X.N[i]? = some x := by rfl) (hj : X.N[j]? = some y := by rfl) (hl : X.N[l]? = some z := by rfl) (hij : i ≠ j := by decide) (hil : i ≠ l := by decide) (hjl : j ≠ l := by decide)
    (hx : X.env.scope.names.lookup x = some .local := by rfl) (hy : X.env.scope.names.lookup y = some .local := by rfl) (hz : X.env.scope.names.lookup z = some .local := by rfl)
    (hw : swappedStores [.Tuple [.Name x px, .Name y py, .Name z pz] kt pt] (.Tuple [a, b, c] k2 pt2) X.env = pure (some [x, y, z]) := by rfl) (hc : X.calm = true := by rfl)
    (hs : swapsWithSole [.Tuple [.Name x px, .Name y py, .Name z pz] kt pt] (.Tuple [a, b, c] k2 pt2) pos.line X.env = pure false := by rfl) : PB X T ρ M (.Assign [.Tuple [.Name x px, .Name y py, .Name z pz] kt pt] (.Tuple [a, b, c] k2 pt2) pos :: rest) Nx Rt :=
  pb_seq (Nx1 := fun ρ' m => ∃ d1 d2 d3, RL [d1, d2, d3] m ∧ ρ' = ((ρ.set i (some d1)).set j (some d2)).set l (some d3)) (PS.imp (ps_par3 hc hN hi hj hl hij hil hjl hx hy hz ha hw hs) fun Dd σ H ⟨G, hs', sl, k1, k2⟩ => ⟨G, hs', sl, fun vs G1 H1 ds m rl st1 hs1 rd => by
    match ds, hr ds m rl, rl, rd with
    | [d1, d2, d3], _, rl, rd =>
      obtain ⟨v, u, w', rfl, r1, r2, r3⟩ := rd.three
      exact ⟨v, u, w', rfl, k1 _ G1 H1 _ m ⟨d1, d2, d3, rl, rfl⟩ st1 hs1 ((((sl.up st1.up).set i r1).set j r2).set l r3)⟩⟩) fun ρ' m ⟨d1, d2, d3, rl, e⟩ => by subst e; exact k d1 d2 d3 m rl
/-- target = e, the target of any form -/
theorem pb_asgG {g : TG} {is : List Nat} {unp : D → Option (List D)} {us : List D} {tg : Expr} (he : PD X T ρ M e d M1) (hg : PG X tg g) (ht : Tgt X.w g is unp) (hu : unp d = some us) (k : PB X T (setsD ρ is us) M1 rest Nx Rt)
    (hs : swapsWithSole [tg] e pos.line X.env = pure false := by rfl) (hw : swappedStores [tg] e X.env = pure none := by rfl) (h1 : (assignEach [tg] X.env).map (·.2) = [assign tg X.env] := by rfl) : PB X T ρ M (.Assign [tg] e pos :: rest) Nx Rt := by
  refine pb_seq (Nx1 := fun ρ' m => ρ' = setsD ρ is us ∧ m = M1) (PS.imp (ps_asg he hg hs hw h1) fun Dd σ H ⟨G, hs', sl, k1, k2⟩ => ?_) fun ρ' m ⟨e1, e2⟩ => by subst e1; subst e2; exact k
  exact ⟨G, hs', sl, fun v G1 H1 st1 hs1 r1 => ht.ok T v σ G1 H1 M1 _ d us hs1 r1 hu fun σ' hsl _ => k1 σ' G1 H1 _ _ ⟨rfl, rfl⟩ st1 hs1 (hsl ρ (sl.up st1.up))⟩
/-- a < b < c -/
theorem pd_chain {op op' : CmpOp} {r r' : R2} {k l : Bool} (ho : OpR X (compareOp op) r) (ho' : OpR X (compareOp op') r') (hr : OkR2 X.w T M2 r da db (.bl k)) (hr' : OkR2 X.w T M3 r' db dc (.bl l)) (ha : PD X T ρ M a da M1) (hb : PD X T ρ M1 b db M2) (hc : PD X T ρ M2 c dc M3) (hM : k = false → M3 = M2)
    (hm : lastMarks [op, op'] [b, c] = false := by with_unfolding_all rfl) : PD X T ρ M (.Compare a [op, op'] [b, c] pos) (.bl (k && l)) M3 :=
  (pe_chain ho ho' ha hb hc hm).imp fun σ H Q ⟨G, hs, sl, kk⟩ => ⟨G, hs, sl, fun x G1 H1 st1 hs1 r1 => ⟨G1, hs1, sl.up st1.up, fun y G2 H2 st2 hs2 r2 => hr G2 H2 x y _ hs2 (r1.up st2.up) r2 fun z G3 H3 st3 hs3 r3 => by
    cases r3
    cases k with
    | false =>
      refine ⟨_, rfl, ?_⟩
      rw [if_neg Bool.false_ne_true]
      have e := hM rfl
      subst e
      exact kk _ G3 H3 ((st1.trans st2).trans st3) hs3 (.bl _)
    | true =>
      refine ⟨_, rfl, ?_⟩
      rw [if_pos rfl]
      refine ⟨G3, hs3, ((sl.up st1.up).up st2.up).up st3.up, fun u G4 H4 st4 hs4 r4 => hr' G4 H4 y u _ hs4 ((r2.up st3.up).up st4.up) r4 fun z' G5 H5 st5 hs5 r5 => ?_⟩
      exact kk z' G5 H5 ((((st1.trans st2).trans st3).trans st4).trans st5) hs5 r5⟩⟩
theorem pdt_chain {op op' : CmpOp} {r r' : R2} {k l : Bool} (ho : OpR X (compareOp op) r) (ho' : OpR X (compareOp op') r') (hr : OkR2 X.w T M2 r da db (.bl k)) (hr' : OkR2 X.w T M3 r' db dc (.bl l)) (ha : PD X T ρ M a da M1) (hb : PD X T ρ M1 b db M2) (hc : PD X T ρ M2 c dc M3) (hM : k = false → M3 = M2)
    (hm : lastMarks [op, op'] [b, c] = false := by with_unfolding_all rfl) : PDT X T ρ M (.Compare a [op, op'] [b, c] pos) (k && l) M3 :=
  (pt_chain ho ho' ha hb hc hm).imp fun σ H Q ⟨G, hs, sl, kk⟩ => ⟨G, hs, sl, fun x G1 H1 st1 hs1 r1 => ⟨G1, hs1, sl.up st1.up, fun y G2 H2 st2 hs2 r2 => hr G2 H2 x y _ hs2 (r1.up st2.up) r2 fun z G3 H3 st3 hs3 r3 => by
    cases r3
    cases k with
    | false =>
      refine ⟨_, rfl, ?_⟩
      rw [if_neg Bool.false_ne_true]
      have e := hM rfl
      subst e
      exact ⟨_, rfl, kk G3 H3 ((st1.trans st2).trans st3) hs3⟩
    | true =>
      refine ⟨_, rfl, ?_⟩
      rw [if_pos rfl]
      refine ⟨G3, hs3, ((sl.up st1.up).up st2.up).up st3.up, fun u G4 H4 st4 hs4 r4 => hr' G4 H4 y u _ hs4 ((r2.up st3.up).up st4.up) r4 fun z' G5 H5 st5 hs5 r5 => ?_⟩
      cases r5
      exact ⟨_, rfl, kk G5 H5 ((((st1.trans st2).trans st3).trans st4).trans st5) hs5⟩⟩⟩
/-! ### == of data -/
mutual
def D.py : D → Option PyData
  | .non => some .none
  | .bl b => some (.bool b)
  | .int i => some (.int i)
  | .str x => some (.str x)
  | .tup ds => (D.pys ds).map .tuple
  | .lst ds => (D.pys ds).map .list
  | .dic _ => none
  | .obj _ _ => none
  | .ref _ => none
def D.pys : List D → Option (List PyData)
  | [] => some []
  | d :: ds => match D.py d, D.pys ds with
    | some k, some ks => some (k :: ks)
    | _, _ => none
end
section
variable {w : World} {G H : Hp} {K : PySem.W.Frag}
mutual
theorem Dt.dp (hG : ∀ a o, G a = some o → H a = some o) : ∀ {v : V} {d : D}, Dt w G v d → ∀ {y : PyData}, d.py = some y → Dp K H v y
  | _, _, .non, y, e => by cases e; exact .non
  | _, _, .bl b, y, e => by cases e; exact .bl b
  | _, _, .int b, y, e => by cases e; exact .int b
  | _, _, .str b, y, e => by cases e; exact .str b
  | _, _, .ref b, y, e => by cases e
  | _, _, .tup h r, y, e => by
    rename_i ds
    unfold D.py at e
    cases q : D.pys ds with
    | none => rw [q] at e; cases e
    | some ys => rw [q] at e; cases e; exact .tup (SqT.of (hG _ _ h)) (DtL.dp hG r q)
  | _, _, .lst h r, y, e => by
    rename_i ds
    unfold D.py at e
    cases q : D.pys ds with
    | none => rw [q] at e; cases e
    | some ys => rw [q] at e; cases e; exact .lst (SqL.of (hG _ _ h)) (DtL.dp hG r q)
  | _, _, .dic h r k, y, e => by cases e
  | _, _, .obj h r, y, e => by cases e
theorem DtL.dp (hG : ∀ a o, G a = some o → H a = some o) : ∀ {vs : List V} {ds : List D}, DtL w G vs ds → ∀ {ys : List PyData}, D.pys ds = some ys → DpAll K H vs ys
  | _, _, .nil, ys, e => by cases e; exact .nil
  | _, _, .cons h r, ys, e => by
    rename_i d ds
    unfold D.pys at e
    cases q1 : d.py with
    | none => rw [q1] at e; cases e
    | some y =>
      cases q2 : D.pys ds with
      | none => rw [q1, q2] at e; cases e
      | some zs => rw [q1, q2] at e; cases e; exact .cons (Dt.dp hG h q1) (DtL.dp hG r q2)
end
end
/-- d's data: owned lists too -/
inductive PV (M : Mem) : D → PyData → Prop
  | dat {d : D} {y : PyData} (h : d.py = some y) : PV M d y
  | own {q : Addr} {ds : List D} {ys : List PyData} (j : Nat) (h : M[j]? = some (some (q, .lst ds))) (e : D.pys ds = some ys) : PV M (.ref q) (.list ys)
theorem PV.dp {w : World} {G H : Hp} {K : PySem.W.Frag} {v : V} {y : PyData} (p : PV M d y) (hs : HS w T G H M) (r : Dt w G v d) : Dp K H v y := by
  cases p with
  | dat h => exact r.dp hs.sub h
  | own j h e =>
    cases r
    obtain ⟨_, xs, e', rr⟩ := hs.mem _ _ (mem_of h)
    exact .lst (SqL.of e') (rr.dp hs.sub e)
theorem ok_eqD {x y : PyData} {k : Bool} {w : World} {K : PySem.W.Frag} (h1 : PV M da x) (h2 : PV M db y) (s1 : SeqAt.shaped x = true) (s2 : SeqAt.shaped y = true) (hk : PyData.eqv x y = k) : OkR2 w T M (rEqD K) da db (.bl k) := fun G H v u Q hs r1 r2 q => by
  subst hk
  exact ⟨x, y, h1.dp hs r1, h2.dp hs r2, s1, s2, q _ G H (Step.refl _ _ _) hs (.bl _)⟩
theorem ok_neD {x y : PyData} {k : Bool} {w : World} {K : PySem.W.Frag} (h1 : PV M da x) (h2 : PV M db y) (s1 : SeqAt.shaped x = true) (s2 : SeqAt.shaped y = true) (hk : (!PyData.eqv x y) = k) : OkR2 w T M (rNeD K) da db (.bl k) := fun G H v u Q hs r1 r2 q => by
  subst hk
  exact ⟨x, y, h1.dp hs r1, h2.dp hs r2, s1, s2, q _ G H (Step.refl _ _ _) hs (.bl _)⟩
theorem pd_eqD {x y : PyData} {k : Bool} (hu : X.A.units + 64 < cLine) (h1 : PV M2 da x) (h2 : PV M2 db y) (s1 : SeqAt.shaped x = true) (s2 : SeqAt.shaped y = true) (hk : PyData.eqv x y = k) (ha : PD X T ρ M a da M1) (hb : PD X T ρ M1 b db M2) (hm : behindInMarks .Eq b = false := by first | exact nomark _ | rfl | with_unfolding_all rfl) : PD X T ρ M (.Compare a [.Eq] [b] pos) (.bl k) M2 := pd_cmp (op_eqD hu) (ok_eqD h1 h2 s1 s2 hk) ha hb hm
theorem pd_neD {x y : PyData} {k : Bool} (hu : X.A.units + 64 < cLine) (h1 : PV M2 da x) (h2 : PV M2 db y) (s1 : SeqAt.shaped x = true) (s2 : SeqAt.shaped y = true) (hk : (!PyData.eqv x y) = k) (ha : PD X T ρ M a da M1) (hb : PD X T ρ M1 b db M2) (hm : behindInMarks .NotEq b = false := by first | exact nomark _ | rfl | with_unfolding_all rfl) : PD X T ρ M (.Compare a [.NotEq] [b] pos) (.bl k) M2 := pd_cmp (op_neD hu) (ok_neD h1 h2 s1 s2 hk) ha hb hm
theorem pdt_eqD {x y : PyData} {k : Bool} (hu : X.A.units + 64 < cLine) (h1 : PV M2 da x) (h2 : PV M2 db y) (s1 : SeqAt.shaped x = true) (s2 : SeqAt.shaped y = true) (hk : PyData.eqv x y = k) (ha : PD X T ρ M a da M1) (hb : PD X T ρ M1 b db M2) (hm : behindInMarks .Eq b = false := by first | exact nomark _ | rfl | with_unfolding_all rfl) : PDT X T ρ M (.Compare a [.Eq] [b] pos) k M2 := pdt_cmp (op_eqD hu) (ok_eqD h1 h2 s1 s2 hk) ha hb hm
theorem pdt_neD {x y : PyData} {k : Bool} (hu : X.A.units + 64 < cLine) (h1 : PV M2 da x) (h2 : PV M2 db y) (s1 : SeqAt.shaped x = true) (s2 : SeqAt.shaped y = true) (hk : (!PyData.eqv x y) = k) (ha : PD X T ρ M a da M1) (hb : PD X T ρ M1 b db M2) (hm : behindInMarks .NotEq b = false := by first | exact nomark _ | rfl | with_unfolding_all rfl) : PDT X T ρ M (.Compare a [.NotEq] [b] pos) k M2 := pdt_cmp (op_neD hu) (ok_neD h1 h2 s1 s2 hk) ha hb hm
/-! ### x in (a, b) of ints -/
theorem inV_ints (i : Int) (ns : List Int) : inV (.int i) (ns.map V.int) = ns.contains i := by
  unfold inV
  induction ns with
  | nil => rfl
  | cons n ns ih =>
    rw [List.map_cons, List.any_cons, ih, List.contains_cons]
    congr 1
    show decide _ = _ 
    by_cases h : n = i
    · subst h; simp
    · have : ¬ i = n := fun z => h z.symm
      simp [h, this]
theorem flat_ints (ns : List Int) : (ns.map V.int).all flatV = true := by
  induction ns with
  | nil => rfl
  | cons n ns ih => rw [List.map_cons, List.all_cons, ih]; rfl
theorem pd_inT {i : Int} {ns : List Int} (ha : PD X T ρ M a (.int i) M1) (hb : PD X T ρ M1 b (.tup (ns.map D.int)) M2) (hm : behindInMarks .In b = false := by first | exact nomark _ | rfl | with_unfolding_all rfl) : PD X T ρ M (.Compare a [.In] [b] pos) (.bl (ns.contains i)) M2 :=
  pd_cmp op_in_seq (fun G H v u Q hs r1 r2 q => by
    cases r1
    obtain ⟨p, xs, rfl, e, r⟩ := r2.tupH hs
    rw [r.ints] at e
    refine ⟨p, _, rfl, .inr (SqT.of e), rfl, flat_ints ns, ?_⟩
    rw [inV_ints]
    exact q _ G H (Step.refl _ _ _) hs (.bl _)) ha hb hm
theorem pd_ninT {i : Int} {ns : List Int} (ha : PD X T ρ M a (.int i) M1) (hb : PD X T ρ M1 b (.tup (ns.map D.int)) M2) (hm : behindInMarks .NotIn b = false := by first | exact nomark _ | rfl | with_unfolding_all rfl) : PD X T ρ M (.Compare a [.NotIn] [b] pos) (.bl (!ns.contains i)) M2 :=
  pd_cmp op_notIn_seq (fun G H v u Q hs r1 r2 q => by
    cases r1
    obtain ⟨p, xs, rfl, e, r⟩ := r2.tupH hs
    rw [r.ints] at e
    refine ⟨p, _, rfl, .inr (SqT.of e), rfl, flat_ints ns, ?_⟩
    rw [inV_ints]
    exact q _ G H (Step.refl _ _ _) hs (.bl _)) ha hb hm
end
end LW

set_option Elab.async false
set_option linter.all false
set_option maxRecDepth 100000
set_option maxHeartbeats 4000000
/-! LJ: dicts of data. -/
namespace LW
open PySem PySem.Spec PyProof.Rows L2
/-! ### the entries' laws, by data -/
def nkEq (a b : D) : Bool := decide (a.nk = b.nk)
def dput (kvs : List (D × D)) (k v : D) : List (D × D) := if (kvs.any fun p => nkEq p.1 k) = true then kvs.map (fun p => if nkEq p.1 k = true then (p.1, v) else p) else kvs ++ [(k, v)]
def dget (kvs : List (D × D)) (k : D) : Option D := (kvs.find? fun p => nkEq p.1 k).map (·.2)
def dmrg (kvs more : List (D × D)) : List (D × D) := more.foldl (fun acc p => dput acc p.1 p.2) kvs
def ddel (kvs : List (D × D)) (k : D) : List (D × D) := kvs.filter fun p => !nkEq p.1 k
theorem dput_keys {kvs : List (D × D)} {k v : D} : (dput kvs k v).map (·.1) = if (kvs.any fun p => nkEq p.1 k) = true then kvs.map (·.1) else kvs.map (·.1) ++ [k] := by
  unfold dput
  split
  · rw [List.map_map]
    refine List.map_congr_left fun p _ => ?_
    show (if nkEq p.1 k = true then (p.1, v) else p).1 = p.1
    split <;> rfl
  · rw [List.map_append]
    rfl
theorem dput_all {Pr : D → Prop} {kvs : List (D × D)} {k v : D} (h : ∀ p ∈ kvs, Pr p.1) (hk : Pr k) : ∀ p ∈ dput kvs k v, Pr p.1 := by
  have e := dput_keys (kvs := kvs) (k := k) (v := v)
  intro p hp
  have m : p.1 ∈ (dput kvs k v).map (·.1) := List.mem_map.mpr ⟨p, hp, rfl⟩
  rw [e] at m
  split at m
  · obtain ⟨q, hq, e'⟩ := List.mem_map.mp m
    rw [← e']
    exact h q hq
  · rcases List.mem_append.mp m with m | m
    · obtain ⟨q, hq, e'⟩ := List.mem_map.mp m
      rw [← e']
      exact h q hq
    · rw [List.mem_singleton.mp m]
      exact hk
theorem dput_len {kvs : List (D × D)} {k v : D} : (dput kvs k v).length ≤ kvs.length + 1 := by
  unfold dput
  split
  · rw [List.length_map]; omega
  · rw [List.length_append]; exact Nat.le_refl _
theorem dput_nd {kvs : List (D × D)} {k v : D} (h : (kvs.map fun p => p.1.nk).Nodup) : ((dput kvs k v).map fun p => p.1.nk).Nodup := by
  have e1 : ((dput kvs k v).map fun p => p.1.nk) = ((dput kvs k v).map (·.1)).map D.nk := by rw [List.map_map]; rfl
  have e2 : (kvs.map fun p => p.1.nk) = (kvs.map (·.1)).map D.nk := by rw [List.map_map]; rfl
  rw [e1, dput_keys]
  rw [e2] at h
  split
  · exact h
  · rename_i hn
    rw [List.map_append, List.nodup_append]
    refine ⟨h, (by simp), fun a ha b hb => ?_⟩
    rw [List.map_cons, List.map_nil, List.mem_singleton] at hb
    subst hb
    intro e
    subst e
    obtain ⟨q, hq, e'⟩ := List.mem_map.mp ha
    obtain ⟨p, hp, e''⟩ := List.mem_map.mp hq
    apply hn
    rw [List.any_eq_true]
    exact ⟨p, hp, by unfold nkEq; rw [decide_eq_true]; rw [e'', e']⟩
theorem dmrg_all {Pr : D → Prop} : ∀ {more kvs : List (D × D)}, (∀ p ∈ kvs, Pr p.1) → (∀ p ∈ more, Pr p.1) → ∀ p ∈ dmrg kvs more, Pr p.1
  | [], _, h, _ => h
  | x :: r, kvs, h, hm => dmrg_all (more := r) (kvs := dput kvs x.1 x.2) (dput_all h (hm x List.mem_cons_self)) fun p hp => hm p (List.mem_cons_of_mem _ hp)
theorem dmrg_len : ∀ {more kvs : List (D × D)}, (dmrg kvs more).length ≤ kvs.length + more.length
  | [], _ => Nat.le_refl _
  | x :: r, kvs => by
    have h1 := dmrg_len (more := r) (kvs := dput kvs x.1 x.2)
    have h2 := dput_len (kvs := kvs) (k := x.1) (v := x.2)
    show (dmrg (dput kvs x.1 x.2) r).length ≤ kvs.length + (r.length + 1)
    omega
theorem dmrg_nd : ∀ {more kvs : List (D × D)}, (kvs.map fun p => p.1.nk).Nodup → ((dmrg kvs more).map fun p => p.1.nk).Nodup
  | [], _, h => h
  | x :: r, kvs, h => dmrg_nd (more := r) (kvs := dput kvs x.1 x.2) (dput_nd h)
/-- keys of one kind, that are keys -/
structure KOk (kvs : List (D × D)) : Prop where
  kind : ∃ t : KT, ∀ p ∈ kvs, t.of p.1 = true
  dep : ∀ p ∈ kvs, ∃ k, p.1.nk = some k ∧ k.depth ≤ 8
theorem KOk.mrg {kvs : List (D × D)} (h : KOk kvs) : KOk (dmrg [] kvs) := by
  obtain ⟨⟨t, ht⟩, hd⟩ := h
  exact ⟨⟨t, dmrg_all (Pr := fun d => t.of d = true) (fun _ h => by cases h) ht⟩, dmrg_all (Pr := fun d => ∃ k, d.nk = some k ∧ k.depth ≤ 8) (fun _ h => by cases h) hd⟩
theorem DicOk.of {a : Addr} {kvs : List (D × D)} (h : KOk kvs) (hs : (a == sysModules) = false) (hl : kvs.length ≤ sizeLine) : DicOk a (dmrg [] kvs) := by
  obtain ⟨hk, hd⟩ := h.mrg
  exact ⟨hs, by have := dmrg_len (more := kvs) (kvs := []); simp only [List.length_nil] at this; omega, dmrg_nd List.nodup_nil, hk, fun p hp k e => by obtain ⟨k', e', h'⟩ := hd p hp; rw [e] at e'; cases e'; exact h'⟩
/-! ### keys carried by value -/
structure KX (P : Program) (w : World) {K : Type} [DecidableEq K] (knd : KeyKind P w K) (ek : K → D) (vk : K → V) (nkk : K → NestedKey) : Prop where
  v_of : ∀ {G : Hp} {v : V} {k : K}, Dt w G v (ek k) → v = vk k
  of_v : ∀ (G : Hp) (k : K), Dt w G (vk k) (ek k)
  is_ : ∀ {k : K} {u : Value}, RelV (vk k) u → knd.is k u = true
  rel : ∀ {k : K} {u : Value}, knd.is k u = true → RelV (vk k) u
  nk : ∀ k, (ek k).nk = some (nkk k)
  hash : ∀ k, (nkk k).hash w = knd.hash k
  inj : ∀ {k j}, nkk k = nkk j → k = j
theorem kx_int (P : Program) (w : World) : KX P w (intKind P w) D.int V.int NestedKey.num :=
  ⟨fun h => by cases h; rfl, fun _ k => .int k, fun {k u} h => by obtain ⟨t, rfl⟩ := h; exact intKind_is P w k t, fun {k u} h => by obtain ⟨t, rfl⟩ := Value.isInt_shape h; exact ⟨t, rfl⟩, fun _ => rfl, fun _ => rfl, fun h => by injection h⟩
theorem kx_str (P : Program) (w : World) : KX P w (strKind P w) D.str V.str NestedKey.text :=
  ⟨fun h => by cases h; rfl, fun _ k => .str k, fun {k u} h => by obtain ⟨t, rfl⟩ := h; exact (show (k == k) = true from beq_self_eq_true k), fun {k u} h => by obtain ⟨t, rfl⟩ := Value.isStrOf_shape h; exact ⟨t, rfl⟩, fun _ => rfl, fun _ => rfl, fun h => by injection h⟩
section
variable {P : Program} {w : World} {G G' H : Hp} {K : Type} [DecidableEq K] {knd : KeyKind P w K} {ek : K → D} {vk : K → V} {nkk : K → NestedKey}
/-- values beside data -/
inductive RP (w : World) (G : Hp) (ek : K → D) : List (K × Value) → List (D × D) → Prop
  | nil : RP w G ek [] []
  | cons {k : K} {u : Value} {v : V} {d : D} {r : List (K × Value)} {ds : List (D × D)} : Dt w G v d → RelV v u → RP w G ek r ds → RP w G ek ((k, u) :: r) ((ek k, d) :: ds)
theorem KX.eq (x : KX P w knd ek vk nkk) (k j : K) : nkEq (ek k) (ek j) = decide (k = j) := by
  unfold nkEq
  rw [x.nk, x.nk]
  by_cases h : k = j
  · subst h; simp
  · rw [decide_eq_false h, decide_eq_false]
    intro e
    exact h (x.inj (Option.some.inj e))
theorem RP.any (x : KX P w knd ek vk nkk) (k : K) : ∀ {zs : List (K × Value)} {ds : List (D × D)}, RP w G ek zs ds → (zs.any fun kv => decide (kv.1 = k)) = (ds.any fun p => nkEq p.1 (ek k))
  | _, _, .nil => rfl
  | _, _, .cons _ _ r => by
    rw [List.any_cons, List.any_cons, RP.any x k r, x.eq]
theorem RP.map (x : KX P w knd ek vk nkk) {k : K} {v : V} {d : D} {u : Value} (h1 : Dt w G v d) (h2 : RelV v u) : ∀ {zs : List (K × Value)} {ds : List (D × D)}, RP w G ek zs ds →
    RP w G ek (zs.map fun kv => if kv.1 = k then (kv.1, u) else kv) (ds.map fun p => if nkEq p.1 (ek k) = true then (p.1, d) else p)
  | _, _, .nil => .nil
  | _, _, .cons (k := j) a b r => by
    rw [List.map_cons, List.map_cons]
    simp only [x.eq]
    by_cases h : j = k
    · rw [if_pos h, if_pos (by simpa using h)]
      exact .cons h1 h2 (RP.map x h1 h2 r)
    · rw [if_neg h, if_neg (by simpa using h)]
      exact .cons a b (RP.map x h1 h2 r)
theorem RP.app {k : K} {v : V} {d : D} {u : Value} (h1 : Dt w G v d) (h2 : RelV v u) : ∀ {zs : List (K × Value)} {ds : List (D × D)}, RP w G ek zs ds → RP w G ek (zs ++ [(k, u)]) (ds ++ [(ek k, d)])
  | _, _, .nil => .cons h1 h2 .nil
  | _, _, .cons a b r => .cons a b (RP.app h1 h2 r)
theorem RP.put (x : KX P w knd ek vk nkk) {k : K} {v : V} {d : D} {u : Value} {zs : List (K × Value)} {ds : List (D × D)} (r : RP w G ek zs ds) (h1 : Dt w G v d) (h2 : RelV v u) : RP w G ek (stored zs k u) (dput ds (ek k) d) := by
  unfold stored dput
  rw [← r.any x k]
  split
  · exact RP.map x h1 h2 r
  · exact RP.app h1 h2 r
theorem RP.mrg (x : KX P w knd ek vk nkk) : ∀ {ms : List (K × Value)} {es : List (D × D)} {zs : List (K × Value)} {ds : List (D × D)}, RP w G ek zs ds → RP w G ek ms es → RP w G ek (merged zs ms) (dmrg ds es)
  | _, _, zs, ds, r, .nil => r
  | _, _, zs, ds, r, .cons (k := k) (u := u) (d := d) (r := ms) (ds := es) a b m => by
    have r' := RP.mrg x (zs := stored zs k u) (ds := dput ds (ek k) d) (r.put x a b) m
    exact r'
theorem RP.get (x : KX P w knd ek vk nkk) (k : K) : ∀ {zs : List (K × Value)} {ds : List (D × D)}, RP w G ek zs ds → (valueAt zs k = none ∧ dget ds (ek k) = none) ∨ ∃ u v d, valueAt zs k = some u ∧ dget ds (ek k) = some d ∧ RelV v u ∧ Dt w G v d
  | _, _, .nil => .inl ⟨rfl, rfl⟩
  | _, _, .cons (k := j) (u := u) (v := v) (d := d) a b r => by
    unfold valueAt dget
    by_cases h : j = k
    · refine .inr ⟨u, v, d, ?_, ?_, b, a⟩
      · rw [List.find?_cons_of_pos (by simpa using h)]; rfl
      · rw [List.find?_cons_of_pos (by simp [x.eq, h])]; rfl
    · rw [List.find?_cons_of_neg (by simpa using h), List.find?_cons_of_neg (by simp [x.eq, h])]
      exact RP.get x k r
theorem RP.length : ∀ {zs : List (K × Value)} {ds : List (D × D)}, RP w G ek zs ds → zs.length = ds.length
  | _, _, .nil => rfl
  | _, _, .cons _ _ r => congrArg (· + 1) (RP.length r)
theorem RP.keys : ∀ {zs : List (K × Value)} {ds : List (D × D)}, RP w G ek zs ds → ds.map (·.1) = (zs.map (·.1)).map ek
  | _, _, .nil => rfl
  | _, _, .cons _ _ r => by
    rw [List.map_cons, List.map_cons, List.map_cons, RP.keys r]
theorem RP.nodup (x : KX P w knd ek vk nkk) {zs : List (K × Value)} {ds : List (D × D)} (r : RP w G ek zs ds) (h : (ds.map fun p => p.1.nk).Nodup) : (zs.map (·.1)).Nodup := by
  have e : (ds.map fun p => p.1.nk) = (zs.map (·.1)).map fun k => some (nkk k) := by
    have := congrArg (List.map D.nk) r.keys
    rw [List.map_map, List.map_map] at this
    rw [show (ds.map fun p => p.1.nk) = ds.map (D.nk ∘ fun x => x.1) from rfl, this]
    refine List.map_congr_left fun k _ => x.nk k
  rw [e] at h
  refine (List.pairwise_map.mp h).imp fun {a b} hne hab => hne (by rw [hab])
/-- the entries as they stand -/
def EntR (x : Int × V × V) (e : DictEntry) : Prop := e.hash = x.1 ∧ RelV x.2.1 e.key ∧ RelV x.2.2 e.val
theorem to_entries (x : KX P w knd ek vk nkk) {el : List DictEntry} {zs : List (K × Value)} (pr : Pairs knd el zs) : ∀ {ds : List (D × D)}, (∀ e ∈ el, ∃ k, knd.is k e.key = true ∧ e.hash = knd.hash k) → RP w G ek zs ds →
    ∃ L, Paired EntR L el ∧ DtE w G L ds := by
  induction pr with
  | nil =>
    intro ds _ r
    cases r
    exact ⟨[], .nil, .nil⟩
  | cons h1 h2 pr ih =>
    intro ds hk r
    cases r with
    | cons a b r =>
      rename_i e es kvs k u v d ds
      obtain ⟨L, p1, p2⟩ := ih (fun e he => hk e (List.mem_cons_of_mem _ he)) r
      obtain ⟨k', q1, q2⟩ := hk _ List.mem_cons_self
      have ek' := knd.inj _ _ _ q1 h1
      have ek' : k' = k := ek'
      subst ek'
      exact ⟨((nkk k').hash w, vk k', v) :: L, .cons ⟨by rw [q2, x.hash], x.rel h1, by rw [h2]; exact b⟩ p1, .cons (x.nk _) (x.of_v G _) a p2⟩
theorem of_entries (x : KX P w knd ek vk nkk) {L : List (Int × V × V)} {el : List DictEntry} (pr : Paired EntR L el) : ∀ {ds : List (D × D)}, DtE w G L ds → (∀ p ∈ ds, ∃ k, p.1 = ek k) →
    ∃ zs, Pairs knd el zs ∧ (∀ e ∈ el, ∃ k, knd.is k e.key = true ∧ e.hash = knd.hash k) ∧ RP w G ek zs ds := by
  induction pr with
  | nil =>
    intro ds r _
    cases r
    exact ⟨[], .nil, (fun _ h => by cases h), .nil⟩
  | cons h pr ih =>
    intro ds r hk
    cases r with
    | cons q a b r =>
      rename_i e L el kv vv dk dv nk ds
      obtain ⟨zs, p1, p2, p3⟩ := ih r fun p hp => hk p (List.mem_cons_of_mem _ hp)
      obtain ⟨k, ek'⟩ := hk _ List.mem_cons_self
      simp only at ek'
      subst ek'
      rw [x.nk] at q
      cases q
      cases x.v_of a
      refine ⟨(k, e.val) :: zs, .cons (x.is_ h.2.1) rfl p1, fun e' he => ?_, .cons b h.2.2 p3⟩
      rcases List.mem_cons.mp he with z | z
      · subst z
        exact ⟨k, x.is_ h.2.1, by rw [h.1, x.hash]⟩
      · exact p2 e' z
theorem to_dic (x : KX P w knd ek vk nkk) {h : Heap} {p : Addr} {zs : List (K × Value)} {ds : List (D × D)} (hd : h.DictOf knd p zs) (r : RP w G ek zs ds) : ∃ L ob, DtE w G L ds ∧ h.get? p = some ob ∧ ∀ H, ObjOk P w H h p (dicO p L) := by
  obtain ⟨o, es, ep, hg, ⟨c1, c2, c3⟩, he, hk, pr, _⟩ := hd
  obtain ⟨L, p1, p2⟩ := to_entries x pr (fun e he => hk e (by simpa using he)) r
  refine ⟨L, o, p2, hg, fun H => ⟨⟨es, ep, ?_, p1⟩, ⟨o, hg⟩, fun h1 h2 ⟨es', ep', g, r⟩ k => ⟨es', ep', k _ g, r⟩⟩⟩
  rw [hg]
  obtain ⟨o1, o2, o3, o4⟩ := o
  cases c1; cases c2; cases c3; cases he
  rfl
theorem of_dic (x : KX P w knd ek vk nkk) {h : Heap} {p : Addr} {L : List (Int × V × V)} {ds : List (D × D)} (ok : ObjOk P w H h p (dicO p L)) (r : DtE w G L ds) (hk : ∀ p ∈ ds, ∃ k, p.1 = ek k) (hn : (ds.map fun p => p.1.nk).Nodup) :
    ∃ zs, h.DictOf knd p zs ∧ RP w G ek zs ds := by
  obtain ⟨⟨es, ep, g, pr⟩, _, _⟩ := ok
  obtain ⟨zs, p1, p2, p3⟩ := of_entries x (el := es.toList) pr r hk
  exact ⟨zs, ⟨_, es, ep, g, ⟨rfl, rfl, rfl⟩, rfl, fun e he => p2 e (by simpa using he), p1, p3.nodup x hn⟩, p3⟩
end
/-! ### dict views -/
/-- d is a dict of kvs: a datum or ours -/
inductive DV (M : Mem) : D → List (D × D) → Prop
  | dat {kvs : List (D × D)} : DV M (.dic kvs) kvs
  | own {p : Addr} {kvs : List (D × D)} (j : Nat) (h : M[j]? = some (some (p, .dic kvs)) := by rfl) : DV M (.ref p) kvs
section
variable {w : World} {T : List Addr} {G H : Hp} {M : Mem} {v : V} {d : D}
theorem DV.get {kvs : List (D × D)} (l : DV M d kvs) (hs : HS w T G H M) (r : Dt w G v d) : ∃ a L, v = .ref a ∧ Rd H a (dicO a L) ∧ DtE w G L kvs ∧ DicOk a kvs := by
  cases l with
  | dat =>
    cases r with
    | dic e r k => exact ⟨_, _, rfl, .inr ⟨_, hs.sub _ _ e⟩, r, k⟩
  | own j h =>
    cases r
    obtain ⟨_, L, e, r, k⟩ := hs.mem _ _ (mem_of h)
    exact ⟨_, L, rfl, .inl e, r, k⟩
end
theorem _root_.L2.Inv.notMod {X : Cx} {pins : List (Addr × Obj)} {σ : L2.St} {H : Hp} {s : Shared} (I : L2.Inv X pins σ H s) : (s.heap.objs.size == sysModules) = false := by
  have := modules_low I.nolimit
  exact beq_false_of_ne (Nat.ne_of_gt this)
def eI (p : Int × D) : D × D := (.int p.1, p.2)
def eS (p : Str × D) : D × D := (.str p.1, p.2)
theorem kok_int (ps : List (Int × D)) : KOk (ps.map eI) :=
  ⟨⟨.i, fun p hp => by obtain ⟨q, _, rfl⟩ := List.mem_map.mp hp; rfl⟩, fun p hp => by obtain ⟨q, _, rfl⟩ := List.mem_map.mp hp; exact ⟨_, rfl, Nat.zero_le _⟩⟩
theorem kok_str (ps : List (Str × D)) : KOk (ps.map eS) :=
  ⟨⟨.s, fun p hp => by obtain ⟨q, _, rfl⟩ := List.mem_map.mp hp; rfl⟩, fun p hp => by obtain ⟨q, _, rfl⟩ := List.mem_map.mp hp; exact ⟨_, rfl, Nat.zero_le _⟩⟩
/-! ### dict(d) -/
section
variable {X : Cx} {T : List Addr} {ρ : List (Option D)} {M M1 M2 M3 : Mem} {d da db : D} {a b c e o : Expr} {pos p : Pos} {ds : List D}
theorem call_dict_copy {K : Type} [DecidableEq K] {knd : KeyKind X.prog X.w K} {ek : K → D} {vk : K → V} {nkk : K → NestedKey} (x : KX X.prog X.w knd ek vk nkk) :
    CallR X (.type "dict") (fun vs H Q => ∃ (a : Addr) (L : List (Int × V × V)) (kvs : List (D × D)) (G : Hp), vs = [.ref a] ∧ Rd H a (dicO a L) ∧ DtE X.w G L kvs ∧ DicOk a kvs ∧ (∀ p ∈ kvs, ∃ k, p.1 = ek k) ∧
      ∀ q L' ob, H q = none → (q == sysModules) = false → DtE X.w G L' kvs → Q (.ref q) (upd H q (.frz ob (dicO q L')))) := by
  intro pins s σ H vs us Q I rs ⟨a, L, kvs, G, e, hH, hE, hD, hk, k⟩
  subst e
  obtain ⟨u, rfl, ru⟩ := vals1 rs
  cases ru
  obtain ⟨zs, hd, rp⟩ := of_dic x (rd_ok I hH) hE hk hD.nd
  refine PySem.kt_call_dict hD.sys hd (by rw [rp.length]; exact hD.len) fun h' hd' sb => ?_
  obtain ⟨L', ob, hE', gob, hok⟩ := to_dic x hd' rp
  have keep : ∀ b o, s.heap.get? b = some o → h'.get? b = some o := fun b o e => sb.extBut b o (Nat.ne_of_lt (Heap.lt_size e)) (Heap.get?_push_of_some _ e)
  exact ⟨.ref _, _, I.laid (o := .frz ob (dicO s.heap.objs.size L')) (t' := s.toks) keep (Nat.le_refl _) ⟨gob, hok _⟩, rfl, k _ L' ob (I.hok.fresh (Nat.le_refl _)) I.notMod hE'⟩
theorem pd_dictD {ps : List (Int × D)} (l : DV M1 da (ps.map eI)) (hm : X.mg "dict" = none) (ha : PD X T ρ M a da M1) (hg : Gl X "dict" := by rfl) (he : starEach [a] X.env = (false, eval a X.env) :: starEach [] X.env := by rfl) :
    PD X T ρ M (.Call (.Name "dict" p) [a] [] pos) (.dic (ps.map eI)) M1 :=
  pd_callT (call_dict_copy (kx_int _ _)) (fun G H vs Q hs r k => by
    obtain ⟨v, rfl, rr⟩ := r.one
    obtain ⟨q, L, rfl, e, hE, hD⟩ := l.get hs rr
    refine ⟨q, L, _, G, rfl, e, hE, hD, fun p hp => by obtain ⟨z, _, rfl⟩ := List.mem_map.mp hp; exact ⟨z.1, rfl⟩, fun q' L' ob hq hsy hE' => ?_⟩
    refine k _ _ _ (Step.newI hs hq) (hs.new hq fun _ z => by cases z) (.dic upd_same (hE'.up (up_upd (hs.freshG hq))) ⟨hsy, hD.len, hD.nd, hD.kind, hD.dep⟩)) hm (by decide +kernel) (pdl_1 ha he) hg (by decide) (by decide) he
end
end LW

set_option Elab.async false
set_option linter.all false
set_option maxRecDepth 100000
set_option maxHeartbeats 4000000
/-! LK: dict(enumerate(..)), dict([..]), the dict's methods. -/
namespace LW
open PySem PySem.Spec PyProof.Rows L2
open Sem (wp)
section
variable {prog : Program} {w : World} {A : Around} {E : Value → Shared → Prop} {s : Shared}
/-- enumerate's next while its tuple is still out -/
theorem enum_heldD {e it T : Addr} {fp : List Addr} {n i : Nat} {c : Int} {Pq : Nat → Value → Prop} {St : Nat → Heap → Prop} {old : Value} {f : Bool} {oT : Obj} {Q : Value → Shared → Prop} (D : Draws prog w A it fp n Pq St)
    (he : IsEnumHeld s.heap e it c old T f) (hT : s.heap.get? T = some oT) (hTe : T ≠ e) (hTi : T ≠ it) (hst : St i s.heap) (hlt : i < n) (hne : e ≠ it) (hef : e ∉ fp)
    (hQ : ∀ x h' tk, Pq i x → IsEnumHeld h' e it (c + 1) old T true → St (i + 1) h' → h'.get? s.heap.objs.size = some { cls := .type "tuple", data := .seq #[.int c tk, x] } →
      (∀ b o, b ≠ e → b ≠ it → s.heap.get? b = some o → h'.get? b = some o) → Q (.ref s.heap.objs.size) { s with heap := h', toks := tk + 1 }) :
    wpAny (model prog w) A (Builtin.«enumerate.__next__» ⟨[.ref e], []⟩) (fun fin s' => ∃ v, fin = .done (.ret v) ∧ Q v s') E s := by
  obtain ⟨hp, g, d, tk₀, os⟩ := s
  show wpAny _ _ (field (.ref e) 2 >>= _) _ _ _
  refine wpAny_bind (wpAny_field he rfl (x := .ref it) rfl ?_)
  refine wpAny_bind (D.item i _ _ _ hlt hst fun x h₁ tk hPx hit₁ hs₁ => ?_)
  replace hs₁ : Heap.SameBut it hp h₁ := hs₁
  have he₁ : IsEnumHeld h₁ e it c old T f := (hs₁.2 e hne).trans he
  show wpAny _ _ (field (.ref e) 3 >>= _) _ _ ⟨h₁, g, d, tk, os⟩
  refine wpAny_bind (wpAny_field he₁ rfl (x := rawInt c) rfl ?_)
  show wpAny _ _ (field (.ref e) 4 >>= _) _ _ ⟨h₁, g, d, tk, os⟩
  refine wpAny_bind (wpAny_field he₁ rfl (x := .none) rfl ?_)
  show wpAny _ _ (mkInt c >>= _) _ _ ⟨h₁, g, d, tk, os⟩
  refine wpAny_bind (wpAny_mkInt ?_)
  show wpAny _ _ (setField (.ref e) 3 (rawInt (c + 1)) >>= _) _ _ ⟨h₁, g, d, tk + 1, os⟩
  refine wpAny_bind (wpAny_setField_rec he₁ (by simp) fun h₂ he₂ hs₂ => ?_)
  replace hs₂ : Heap.SameBut e h₁ h₂ := hs₂
  replace he₂ : IsEnumHeld h₂ e it (c + 1) old T f := he₂
  show wpAny _ _ (setField (.ref e) 4 .none >>= _) _ _ ⟨h₂, g, d, tk + 1, os⟩
  refine wpAny_bind (wpAny_setField_rec he₂ (by simp) fun h₃ he₃ hs₃ => ?_)
  replace hs₃ : Heap.SameBut e h₂ h₃ := hs₃
  replace he₃ : IsEnumHeld h₃ e it (c + 1) old T f := he₃
  show wpAny _ _ (newTuple [.int c tk, x] >>= _) _ _ ⟨h₃, g, d, tk + 1, os⟩
  refine wpAny_bind (wpAny_newTuple ?_)
  have he₄ : IsEnumHeld (h₃.push { cls := .type "tuple", data := .seq #[.int c tk, x] }) e it (c + 1) old T f := Heap.get?_push_of_some _ he₃
  generalize hh₄ : h₃.push { cls := .type "tuple", data := .seq #[.int c tk, x] } = h₄ at he₄
  have hsz : h₃.objs.size = hp.objs.size := by rw [hs₃.1, hs₂.1, hs₁.1]
  have hel : e < hp.objs.size := Heap.lt_size he
  have ht₄ : h₄.get? hp.objs.size = some { cls := .type "tuple", data := .seq #[.int c tk, x] } := by rw [← hh₄, ← hsz]; exact Heap.get?_push_size _ rfl
  have hk₄ : ∀ b o, b ≠ e → b ≠ it → hp.get? b = some o → h₄.get? b = some o := fun b o hbe hbi hb => by
    rw [← hh₄]; exact Heap.get?_push_of_some _ (hs₃.extBut b o hbe (hs₂.extBut b o hbe (hs₁.extBut b o hbi hb)))
  have hit₄ : St (i + 1) h₄ := D.frame _ _ _ hit₁ fun b hb o y => by
    have hbe : b ≠ e := fun q => hef (q ▸ hb)
    rw [← hh₄]; exact Heap.get?_push_of_some _ (hs₃.extBut b o hbe (hs₂.extBut b o hbe y))
  show wpAny _ _ (Builtin.SmallTypes.ownedTupleIsFree (.ref e) >>= _) _ _ ⟨h₄, g, d, tk + 1, os⟩
  rw [hsz]
  refine wpAny_bind (wpAny_tupleHeld_enum (s := ⟨h₄, g, d, tk + 1, os⟩) he₄ (hk₄ T oT hTe hTi hT) fun h₅ he₅ hs₅ => ?_)
  replace hs₅ : Heap.SameBut e h₄ h₅ := hs₅
  simp only [Bool.false_eq_true, if_false]
  exact wpAny_pure ⟨_, rfl, hQ x h₅ tk hPx he₅ (D.frame _ _ _ hit₄ fun b hb o y => hs₅.extBut b o (fun q => hef (q ▸ hb)) y) (hs₅.extBut _ _ (Nat.ne_of_gt hel) ht₄) fun b o hbe hbi hb => hs₅.extBut b o hbe (hk₄ b o hbe hbi hb)⟩
theorem enum_held_item {e it T : Addr} {fp : List Addr} {n i : Nat} {c : Int} {Pq : Nat → Value → Prop} {St : Nat → Heap → Prop} {old : Value} {f : Bool} {oT : Obj} {Q : Option Value → Shared → Prop} (D : Draws prog w A.in1 it fp n Pq St)
    (he : IsEnumHeld s.heap e it c old T f) (hT : s.heap.get? T = some oT) (hTe : T ≠ e) (hTi : T ≠ it) (hst : St i s.heap) (hlt : i < n) (hne : e ≠ it) (hef : e ∉ fp)
    (hQ : ∀ x h' tk, Pq i x → IsEnumHeld h' e it (c + 1) old T true → St (i + 1) h' → h'.get? s.heap.objs.size = some { cls := .type "tuple", data := .seq #[.int c tk, x] } →
      (∀ b o, b ≠ e → b ≠ it → s.heap.get? b = some o → h'.get? b = some o) → Q (some (.ref s.heap.objs.size)) { s with heap := h', toks := tk + 1 }) : wpAny (model prog w) A (pyNext (.ref e)) Q E s := by
  have hTy : s.TypeIs (.ref e) "enumerate" := ⟨_, he, rfl⟩
  unfold pyNext
  exact wpAny_bind (wpAny_attempt (wpAny_callSpecial?_slot (name := Str.ofString "__next__") hTy F.slot_enumerate_next
    (wpAny_call_entry F.slot_enumerate_next hTy F.entry_enumerate_next
      (enum_heldD D he hT hTe hTi hst hlt hne hef fun x h' tk a1 a2 a3 a4 a5 => wpAny_pure (hQ x h' tk a1 a2 a3 a4 a5)) (F.args_enumerate_next_1 _))))
theorem enum_held_end {e it T : Addr} {fp : List Addr} {n : Nat} {c : Int} {Pq : Nat → Value → Prop} {St : Nat → Heap → Prop} {old : Value} {f : Bool} {Q : Option Value → Shared → Prop} (D : Draws prog w A.in1 it fp n Pq St)
    (he : IsEnumHeld s.heap e it c old T f) (hst : St n s.heap) (hQ : ∀ h', Heap.ExtBut it s.heap h' → Q none { s with heap := h' }) : wpAny (model prog w) A (pyNext (.ref e)) Q E s := by
  have hTy : s.TypeIs (.ref e) "enumerate" := ⟨_, he, rfl⟩
  unfold pyNext
  refine wpAny_bind (wpAny_attempt (wpAny_callSpecial?_slot (name := Str.ofString "__next__") hTy F.slot_enumerate_next
    (wpAny_call_entry F.slot_enumerate_next hTy F.entry_enumerate_next ?_ (F.args_enumerate_next_1 _))))
  show wpAny _ _ (field (.ref e) 2 >>= _) _ _ _
  refine wpAny_bind (wpAny_field he rfl (x := .ref it) rfl ?_)
  refine wpAny_bind (D.done _ _ _ hst fun h' x he' hx' => ?_)
  obtain ⟨o, ho, hc⟩ := hx'
  refine wpAny_bind (wpAny_isInstance (T := "StopIteration") (b := true) ⟨o, ho, hc⟩ isSubtype_stop ?_)
  exact wpAny_pure (hQ _ he')
end
theorem pairArg_enum {prog : Program} {w : World} {e it : Addr} {fp : List Addr} {n : Nat} {Pq : Nat → Value → Prop} {St : Nat → Heap → Prop} (D : ∀ A : Around, A.handled = none → Draws prog w A it fp n Pq St) (hne : e ≠ it) (hef : e ∉ fp) (hif : it ∈ fp)
    (hobj : ∀ h, St 0 h → ∀ b ∈ fp, ∃ o, h.get? b = some o) :
    PairArg prog w "enumerate" e (e :: fp) [e, it] n (fun i k v => (∃ t, k = .int (i : Nat) t) ∧ Pq i v) (fun h => (∃ old, IsEnum h e it 0 old) ∧ St 0 h) where
  type := fun s ok => let ⟨⟨_, he⟩, _⟩ := ok; ⟨_, he, rfl⟩
  notDict := by decide
  keep := fun h h' ok hk => by
    obtain ⟨⟨old, he⟩, hst⟩ := ok
    exact ⟨⟨old, hk _ _ he⟩, (D ⟨none, 0, none, none, 0⟩ rfl).frame _ _ _ hst fun b _ o x => hk _ o x⟩
  there := fun h ok b hb => by
    obtain ⟨⟨old, he⟩, hst⟩ := ok
    rcases List.mem_cons.mp hb with z | z
    · rw [z]; exact ⟨_, he⟩
    · exact hobj h hst b z
  sub := fun b hb => by
    simp only [List.mem_cons, List.not_mem_nil, or_false] at hb
    rcases hb with rfl | rfl
    · exact List.mem_cons_self
    · exact List.mem_cons_of_mem _ hif
  noKeys := fun A s Q E hA ok h => let ⟨⟨_, he⟩, _⟩ := ok; getAttrOr_miss_enumerate he rfl rfl rfl enumerate_no_keys (by decide +kernel) hA h
  iter := fun A s d Q E hA ok hd hdf h => by
    obtain ⟨⟨old, he⟩, hst⟩ := ok
    have de : d ≠ e := fun z => hdf (z ▸ List.mem_cons_self)
    have dfp : d ∉ fp := fun z => hdf (List.mem_cons_of_mem _ z)
    have dit : d ≠ it := fun z => dfp (z ▸ hif)
    refine wpAny_pyIter_enum he (h e [e, it] (fun i h => St i h ∧ ((∃ old, IsEnum h e it (i : Nat) old) ∨ ∃ old T f oT, IsEnumHeld h e it (i : Nat) old T f ∧ h.get? T = some oT ∧ T ≠ e ∧ T ≠ it ∧ T ≠ d)) s.heap s.toks ?_
      ⟨hst, .inl ⟨old, he⟩⟩ (fun _ _ e => e) fun b hb => .inl hb)
    have DA := D A.in1 hA
    exact {
      off := fun hm => by
        simp only [List.mem_cons, List.not_mem_nil, or_false] at hm
        rcases hm with x | x
        · exact de x
        · exact dit x
      frame := fun i h₁ h₂ st hk => by
        obtain ⟨hst, he⟩ := st
        refine ⟨DA.frame _ _ _ hst fun b hb o x => hk b o (fun z => dfp (z ▸ hb)) x, ?_⟩
        rcases he with ⟨old, he⟩ | ⟨old, T, f, oT, he, hT, r1, r2, r3⟩
        · exact .inl ⟨old, hk _ _ (Ne.symm de) he⟩
        · exact .inr ⟨old, T, f, oT, hk _ _ (Ne.symm de) he, hk _ _ r3 hT, r1, r2, r3⟩
      item := fun i s₁ Q₁ E₁ hi st hds hQ => by
        obtain ⟨hst, he⟩ := st
        have ec : ((i + 1 : Nat) : Int) = (i : Int) + 1 := by omega
        have nit : s₁.heap.objs.size ≠ it := let ⟨_, x⟩ := DA.live _ _ hst; Nat.ne_of_gt (Heap.lt_size x)
        rcases he with ⟨old, he⟩ | ⟨old, T, f, oT, he, hT, r1, r2, r3⟩
        · refine wpAny_pyNext_enum_itemC DA he hst hi hne hef fun x h' tk hP ho st' hT hsz hk => ?_
          exact hQ s₁.heap.objs.size _ _ h' (tk + 1) ⟨⟨_, rfl⟩, hP⟩ (.inl ⟨_, hT, rfl, _, rfl⟩)
            ⟨st', .inr ⟨_, s₁.heap.objs.size, false, _, (by rw [ec]; exact ho), hT, Nat.ne_of_gt (Heap.lt_size he), nit, Nat.ne_of_gt hds⟩⟩
            fun b o hb x => hk b o (fun y => hb (by simp [y])) (fun y => hb (by simp [y])) x
        · refine enum_held_item DA he hT r1 r2 hst hi hne hef fun x h' tk hP ho st' hT' hk => ?_
          exact hQ s₁.heap.objs.size _ _ h' (tk + 1) ⟨⟨_, rfl⟩, hP⟩ (.inl ⟨_, hT', rfl, _, rfl⟩)
            ⟨st', .inr ⟨old, T, true, oT, (by rw [ec]; exact ho), hk _ _ r1 r2 hT, r1, r2, r3⟩⟩
            fun b o hb x => hk b o (fun y => hb (by simp [y])) (fun y => hb (by simp [y])) x
      done := fun s₁ Q₁ E₁ st hQ => by
        obtain ⟨hst, he⟩ := st
        rcases he with ⟨old, he⟩ | ⟨old, T, f, oT, he, hT, r1, r2, r3⟩
        · exact wpAny_pyNext_enum_endD DA he hst fun h' hk => hQ h' s₁.toks fun b o hb x => hk b o (fun y => hb (by simp [y])) x
        · exact enum_held_end DA he hst fun h' hk => hQ h' s₁.toks fun b o hb x => hk b o (fun y => hb (by simp [y])) x }
section
variable {X : Cx} {T : List Addr} {ρ : List (Option D)} {M M1 M2 M3 : Mem} {d da db : D} {a b c e o : Expr} {pos p p2 pos2 : Pos} {ds : List D}
def iota (as : List D) : List (Int × D) := (List.range as.length).zip as |>.map fun q => ((q.1 : Nat), q.2)
theorem iota_get {as : List D} {i : Nat} {d : D} (h : as[i]? = some d) : (iota as)[i]? = some (((i : Nat) : Int), d) := by
  have hl : i < as.length := (List.getElem?_eq_some_iff.mp h).1
  unfold iota
  have e : ((List.range as.length).zip as)[i]? = some (i, d) := List.getElem?_zip_eq_some.mpr ⟨List.getElem?_range hl, h⟩
  rw [List.getElem?_map, e]
  rfl
theorem iota_length {as : List D} : (iota as).length = as.length := by simp [iota]
/-- numbered values beside numbered data -/
theorem rp_iota {w : World} {G : Hp} : ∀ {xs : List V} {us : List Value} {as : List D}, Vals xs us → DtL w G xs as → ∀ n : Nat,
    RP w G D.int ((List.range' n us.length).zip us |>.map fun q => (((q.1 : Nat) : Int), q.2)) ((List.range' n as.length).zip as |>.map fun q => eI (((q.1 : Nat) : Int), q.2))
  | _, _, _, .nil, .nil, n => .nil
  | _, _, _, .cons r rs, .cons q qs, n => by
    show RP w G D.int (((n : Nat), _) :: _) ((D.int (n : Nat), _) :: _)
    exact .cons q r (rp_iota rs qs (n + 1))
theorem iota_eI {as : List D} : ((List.range' 0 as.length).zip as |>.map fun q => eI (((q.1 : Nat) : Int), q.2)) = (iota as).map eI := by
  unfold iota
  rw [List.map_map, List.range_eq_range']
  rfl
/-- the pairs put one behind the other -/
theorem pe_dictEnum {te : TE} (hm : X.mg "dict" = none) (hm2 : X.mg "enumerate" = none) (he : PE X e te) (hc : X.calm = true) (hg : Gl X "dict") (hg2 : Gl X "enumerate")
    (hs : starEach [.Call (.Name "enumerate" p2) [e] [] pos2] X.env = [(false, eval (.Call (.Name "enumerate" p2) [e] [] pos2) X.env)] := by rfl) (hs2 : starEach [e] X.env = [(false, eval e X.env)] := by rfl) :
    PE X (.Call (.Name "dict" p) [.Call (.Name "enumerate" p2) [e] [] pos2] [] pos) (fun σ H Q => te σ H fun v H1 => ∃ (a : Addr) (xs : List V) (as : List D) (G : Hp), v = .ref a ∧ H1 a = some (.tup xs) ∧ DtL X.w G xs as ∧ as.length ≤ sizeLine ∧
      ∀ q L ob, H1 q = none → (q == sysModules) = false → DtE X.w G L (dmrg [] ((iota as).map eI)) → Q (.ref q) (upd H1 q (.frz ob (dicO q L)))) := by
  refine ⟨fun pins s σ H Q I h => ?_⟩
  refine wpAny_Call_Name_kw (ld_blt I hg hm (u := .type "dict") (by decide +kernel) ?_)
  refine PyProof.Rows.callWith_type1 ?_ hs rfl
  rw [hs]
  refine Calls.spliced_cons ?_
  refine wpAny_Call_Name_kw (ld_blt I hg2 hm2 boot_enumerate ?_)
  refine PyProof.Rows.callWith_type1 ?_ hs2 rfl
  rw [hs2]
  refine Calls.spliced_cons (thn (he.run pins s σ H _ I h) fun u s1 ⟨v, H1, I1, r1, a, xs, as, G, ev, hH, hx, hl, k⟩ => ?_)
  subst ev
  cases r1
  refine Calls.spliced_nil ?_
  obtain ⟨us, r, pt, _⟩ := I1.tuple (.inl (.inl hH))
  have hd : X.A.handled = none := I1.ok.hd hc
  have hal : a < s1.heap.objs.size := let ⟨_, e', _⟩ := pt; Heap.lt_size e'
  refine enum1_begins (begins_tuple a us.toArray) pt fun h' hen hit hsz hk => ?_
  refine Calls.spliced_nil ?_
  have na : a ≠ s1.heap.objs.size := Nat.ne_of_lt hal
  have PA := pairArg_enum (prog := X.prog) (w := X.w) (e := s1.heap.objs.size + 1) (it := s1.heap.objs.size) (fun A hA => Draws.tuple hA s1.heap.objs.size a na us.toArray) (Nat.succ_ne_self _) (fun z => by
    simp only [List.mem_cons, List.not_mem_nil, or_false] at z
    rcases z with z | z
    · exact Nat.succ_ne_self _ z
    · rw [← z] at hal; exact absurd hal (Nat.not_lt_of_le (Nat.le_succ _))) List.mem_cons_self (fun h st b hb => by
    simp only [List.mem_cons, List.not_mem_nil, or_false] at hb
    obtain ⟨⟨o1, q1, _⟩, ⟨o2, q2, _⟩⟩ := st
    rcases hb with rfl | rfl
    · exact ⟨_, q1⟩
    · exact ⟨_, q2⟩)
  have lus : us.toArray.size = as.length := by rw [List.size_toArray, ← r.length, hx.length]
  have rp := rp_iota r hx 0
  rw [iota_eI] at rp
  refine call_dict_pairs (knd := intKind X.prog X.w) (kvs := (List.range' 0 us.length).zip us |>.map fun q => (((q.1 : Nat) : Int), q.2)) PA hd ⟨⟨_, hen⟩, ⟨_, hit, rfl, rfl⟩, ?_⟩ ⟨?_, ?_⟩ (by rw [lus]; exact hl) ?_
  · obtain ⟨o, e', c, dd⟩ := pt
    exact ⟨o, hk _ _ e', c, dd⟩
  · simp
  · rintro i key v ⟨⟨t, rfl⟩, hv⟩
    refine ⟨(i : Nat), ?_, intKind_is _ _ _ _⟩
    rw [List.getElem?_toArray] at hv
    have hi : i < us.length := (List.getElem?_eq_some_iff.mp hv).1
    have e : ((List.range' 0 us.length).zip us)[i]? = some (i, v) := List.getElem?_zip_eq_some.mpr ⟨by rw [← List.range_eq_range']; exact List.getElem?_range hi, hv⟩
    rw [List.getElem?_map, e]
    rfl
  · intro h2 tk2 hd2 hk2
    have rm := RP.mrg (kx_int X.prog X.w) (zs := []) (ds := []) .nil rp
    obtain ⟨L, ob, hE, gob, hok⟩ := to_dic (kx_int X.prog X.w) hd2 rm
    have keep : ∀ b o, s1.heap.get? b = some o → h2.get? b = some o := fun b o e' => hk2 b o (fun z => by
      simp only [List.mem_cons, List.not_mem_nil, or_false] at z
      have := Heap.lt_size e'
      rcases z with z | z
      · rw [z] at this; exact absurd this (Nat.not_lt_of_le (Nat.le_succ _))
      · rw [z] at this; exact Nat.lt_irrefl _ this) (hk b o e')
    have hge : s1.heap.objs.size ≤ h'.objs.size := by rw [hsz]; exact Nat.le_add_right _ _
    have nm : (h'.objs.size == sysModules) = false := beq_false_of_ne (Nat.ne_of_gt (Nat.lt_of_lt_of_le (modules_low I1.nolimit) hge))
    exact ⟨.ref _, _, I1.laid (o := .frz ob (dicO h'.objs.size L)) (t' := tk2) keep hge ⟨gob, hok _⟩, rfl, k _ L ob (I1.hok.fresh hge) nm hE⟩
theorem pd_dictEnum (hm : X.mg "dict" = none) (hm2 : X.mg "enumerate" = none) (he : PD X T ρ M e (.tup ds) M1) (hl : ds.length ≤ sizeLine) (hc : X.calm = true := by rfl) (hg : Gl X "dict" := by rfl) (hg2 : Gl X "enumerate" := by rfl)
    (hs : starEach [.Call (.Name "enumerate" p2) [e] [] pos2] X.env = [(false, eval (.Call (.Name "enumerate" p2) [e] [] pos2) X.env)] := by rfl) (hs2 : starEach [e] X.env = [(false, eval e X.env)] := by rfl) :
    PD X T ρ M (.Call (.Name "dict" p) [.Call (.Name "enumerate" p2) [e] [] pos2] [] pos) (.dic (dmrg [] ((iota ds).map eI))) M1 :=
  (pe_dictEnum hm hm2 he hc hg hg2 hs hs2).imp fun σ H Q ⟨G, hs, sl, k⟩ => ⟨G, hs, sl, fun v G1 H1 st1 hs1 r1 => by
    obtain ⟨q, xs, rfl, e1, r⟩ := r1.tupH hs1
    refine ⟨q, xs, ds, G1, rfl, e1, r, hl, fun q' L ob hq hsy hE => ?_⟩
    refine k _ _ _ (st1.trans (Step.newI hs1 hq)) (hs1.new hq fun _ z => by cases z) (.dic upd_same (hE.up (up_upd (hs1.freshG hq))) (DicOk.of (kok_int _) hsy ?_))
    rw [List.length_map, iota_length]; exact hl⟩
end
end LW

set_option Elab.async false
set_option linter.all false
set_option maxRecDepth 100000
set_option maxHeartbeats 4000000
/-! LL: dict of pairs, get, items, len, sorted. -/
namespace LW
open PySem PySem.Spec PyProof.Rows L2
open Sem (wp)
def prD (p : D × D) : D := .tup [p.1, p.2]
section
variable {w : World} {G H : Hp}
/-- values beside pairs of data -/
inductive RQ (w : World) (G : Hp) : List (Value × Value) → List (D × D) → Prop
  | nil : RQ w G [] []
  | cons {ku vu : Value} {kv vv : V} {k v : D} {r : List (Value × Value)} {ds : List (D × D)} : Dt w G kv k → RelV kv ku → Dt w G vv v → RelV vv vu → RQ w G r ds → RQ w G ((ku, vu) :: r) ((k, v) :: ds)
theorem RQ.length : ∀ {ps : List (Value × Value)} {ds : List (D × D)}, RQ w G ps ds → ps.length = ds.length
  | _, _, .nil => rfl
  | _, _, .cons _ _ _ _ r => congrArg (· + 1) (RQ.length r)
theorem pairs_of {X : Cx} {pins : List (Addr × Obj)} {σ : L2.St} {s : Shared} (I : L2.Inv X pins σ H s) (hG : ∀ a o, G a = some o → H a = some o) {xs : List V} {us : List Value} (r : Vals xs us) : ∀ {kvs : List (D × D)}, DtL w G xs (kvs.map prD) →
    ∃ (ts : List Addr) (ps : List (Value × Value)), us = ts.map Value.ref ∧ ts.length = kvs.length ∧ RQ w G ps kvs ∧ ∀ (j : Nat) (k v : Value), ps[j]? = some (k, v) → ∃ t, ts[j]? = some t ∧ PairAt s.heap t k v := by
  induction r with
  | nil =>
    intro kvs h
    cases kvs with
    | nil => exact ⟨[], [], rfl, rfl, .nil, fun j k v e => by simp at e⟩
    | cons p q => cases h
  | cons ra rb ih =>
    intro kvs h
    cases kvs with
    | nil => cases h
    | cons p q =>
      obtain ⟨k, v⟩ := p
      cases h with
      | cons h1 h2 =>
        obtain ⟨ts, ps, e1, e2, e3, e4⟩ := ih h2
        cases h1 with
        | tup eg rr =>
          rename_i a xs'
          cases ra
          obtain ⟨kv, vv, rfl, r1, r2⟩ := rr.two
          obtain ⟨its, rv, pt, _⟩ := I.tuple (.inl (.inl (hG _ _ eg)))
          obtain ⟨ku, vu, rfl, q1, q2⟩ := vals2 rv
          refine ⟨a :: ts, (ku, vu) :: ps, by rw [e1]; rfl, by simp [e2], .cons r1 q1 r2 q2 e3, fun j k' v' e => ?_⟩
          cases j with
          | zero =>
            simp at e
            obtain ⟨rfl, rfl⟩ := e
            exact ⟨a, rfl, .inl pt⟩
          | succ j =>
            obtain ⟨t, z1, z2⟩ := e4 j k' v' (by simpa using e)
            exact ⟨t, by simpa using z1, z2⟩
end
/-! ### keys that are tuples -/
section
variable {P : Program} {w : World} {G H : Hp} {h : Heap}
mutual
theorem Dt.nested (ok : HOk P w H h) (hG : ∀ a o, G a = some o → H a = some o) : ∀ {v : V} {d : D}, Dt w G v d → ∀ {u : Value} {k : NestedKey}, RelV v u → d.nk = some k → NestedIs h k u
  | _, _, .non, u, k, r, e => by cases e; cases r; exact .none
  | _, _, .bl b, u, k, r, e => by cases e; cases r; exact .bool rfl
  | _, _, .int i, u, k, r, e => by cases e; obtain ⟨t, rfl⟩ := r; exact .int _ _
  | _, _, .str x, u, k, r, e => by cases e; obtain ⟨t, rfl⟩ := r; exact .text _ _
  | _, _, .ref a, u, k, r, e => by cases e
  | _, _, .tup eg rr, u, k, r, e => by
    rename_i ds
    unfold D.nk at e
    cases q : D.nks ds with
    | none => rw [q] at e; cases e
    | some ks =>
      rw [q] at e
      cases e
      cases r
      obtain ⟨_, its, rv, o, g, c, n, dd⟩ := ok _ _ (hG _ _ eg)
      exact .tup g c dd (by simpa using DtL.nested ok hG rr rv q)
  | _, _, .lst eg rr, u, k, r, e => by cases e
  | _, _, .dic eg rr q, u, k, r, e => by cases e
  | _, _, .obj eg rr, u, k, r, e => by cases e
theorem DtL.nested (ok : HOk P w H h) (hG : ∀ a o, G a = some o → H a = some o) : ∀ {vs : List V} {ds : List D}, DtL w G vs ds → ∀ {us : List Value} {ks : List NestedKey}, Vals vs us → D.nks ds = some ks → NestedAll h ks us
  | _, _, .nil, us, ks, r, e => by cases e; cases r; exact .nil
  | _, _, .cons h1 h2, us, ks, r, e => by
    rename_i d ds
    unfold D.nks at e
    cases r with
    | cons r1 r2 =>
      cases q1 : d.nk with
      | none => rw [q1] at e; cases e
      | some k =>
        cases q2 : D.nks ds with
        | none => rw [q1, q2] at e; cases e
        | some kk =>
          rw [q1, q2] at e
          cases e
          exact .cons (Dt.nested ok hG h1 r1 q1) (DtL.nested ok hG h2 r2 q2)
end
/-- entries with a tuple's address, beside data -/
inductive RH (w : World) (G : Hp) : List (NestedKey × Addr × Value) → List (D × D) → Prop
  | nil : RH w G [] []
  | cons {k : NestedKey} {a : Addr} {u : Value} {v : V} {dk d : D} {r : List (NestedKey × Addr × Value)} {ds : List (D × D)} : dk.nk = some k → Dt w G (.ref a) dk → Dt w G v d → RelV v u → RH w G r ds → RH w G ((k, a, u) :: r) ((dk, d) :: ds)
theorem nkEq_of {a b : D} {k j : NestedKey} (h1 : a.nk = some k) (h2 : b.nk = some j) : nkEq a b = decide (k = j) := by
  unfold nkEq
  rw [h1, h2]
  by_cases h : k = j
  · subst h; simp
  · rw [decide_eq_false h, decide_eq_false fun e => h (Option.some.inj e)]
theorem RH.any {dk : D} {k : NestedKey} (hk : dk.nk = some k) : ∀ {xs : List (NestedKey × Addr × Value)} {ds : List (D × D)}, RH w G xs ds → (atKey xs k).isSome = (ds.any fun p => nkEq p.1 dk)
  | _, _, .nil => rfl
  | _, _, .cons (k := j) e a b c r => by
    rw [List.any_cons, nkEq_of e hk, ← RH.any hk r]
    unfold atKey
    by_cases h : j = k
    · rw [List.find?_cons_of_pos (by simpa using h)]; simp [h]
    · rw [List.find?_cons_of_neg (by simpa using h)]; simp [h]
theorem RH.map {dk d : D} {k : NestedKey} {v : V} {u : Value} (hk : dk.nk = some k) (h1 : Dt w G v d) (h2 : RelV v u) : ∀ {xs : List (NestedKey × Addr × Value)} {ds : List (D × D)}, RH w G xs ds → RH w G (xs.map (putAt k u)) (ds.map fun p => if nkEq p.1 dk = true then (p.1, d) else p)
  | _, _, .nil => .nil
  | _, _, .cons (k := j) e a b c r => by
    rw [List.map_cons, List.map_cons]
    unfold putAt
    simp only [nkEq_of e hk]
    by_cases h : j = k
    · rw [if_pos h, if_pos (by simpa using h)]
      exact .cons e a h1 h2 (RH.map hk h1 h2 r)
    · rw [if_neg h, if_neg (by simpa using h)]
      exact .cons e a b c (RH.map hk h1 h2 r)
theorem RH.app {dk d : D} {k : NestedKey} {a : Addr} {v : V} {u : Value} (hk : dk.nk = some k) (ha : Dt w G (.ref a) dk) (h1 : Dt w G v d) (h2 : RelV v u) : ∀ {xs : List (NestedKey × Addr × Value)} {ds : List (D × D)}, RH w G xs ds → RH w G (xs ++ [(k, a, u)]) (ds ++ [(dk, d)])
  | _, _, .nil => .cons hk ha h1 h2 .nil
  | _, _, .cons e a b c r => .cons e a b c (RH.app hk ha h1 h2 r)
theorem RH.put {dk d : D} {k : NestedKey} {a : Addr} {v : V} {u : Value} {xs : List (NestedKey × Addr × Value)} {ds : List (D × D)} (r : RH w G xs ds) (hk : dk.nk = some k) (ha : Dt w G (.ref a) dk) (h1 : Dt w G v d) (h2 : RelV v u) : RH w G (storedH xs k a u) (dput ds dk d) := by
  unfold storedH dput
  rw [r.any hk]
  split
  · exact RH.map hk h1 h2 r
  · exact RH.app hk ha h1 h2 r
theorem RH.mrg : ∀ {ms : List (NestedKey × Addr × Value)} {es : List (D × D)} {zs : List (NestedKey × Addr × Value)} {ds : List (D × D)}, RH w G zs ds → RH w G ms es → RH w G (storedAllH zs ms) (dmrg ds es)
  | _, _, zs, ds, r, .nil => r
  | _, _, zs, ds, r, .cons (k := k) (a := a) (u := u) (dk := dk) (d := d) e1 e2 e3 e4 m => by
    have r' := RH.mrg (zs := storedH zs k a u) (ds := dput ds dk d) (r.put e1 e2 e3 e4) m
    exact r'
theorem RH.length : ∀ {xs : List (NestedKey × Addr × Value)} {ds : List (D × D)}, RH w G xs ds → xs.length = ds.length
  | _, _, .nil => rfl
  | _, _, .cons _ _ _ _ r => congrArg (· + 1) (RH.length r)
theorem RH.entries : ∀ {xs : List (NestedKey × Addr × Value)} {ds : List (D × D)}, RH w G xs ds → ∃ L, Paired EntR L (xs.map (entryOfKey (nestedKind P w))) ∧ DtE w G L ds
  | _, _, .nil => ⟨[], .nil, .nil⟩
  | _, _, .cons (k := k) (a := a) (v := v) e1 e2 e3 e4 r => by
    obtain ⟨L, p1, p2⟩ := RH.entries r
    exact ⟨(k.hash w, .ref a, v) :: L, .cons ⟨rfl, rfl, e4⟩ p1, .cons e1 e2 e3 p2⟩
theorem to_dicH {p : Addr} {xs : List (NestedKey × Addr × Value)} {ds : List (D × D)} (hd : h.DictOfH (nestedKind P w) p xs) (r : RH w G xs ds) : ∃ L ob, DtE w G L ds ∧ h.get? p = some ob ∧ ∀ H, ObjOk P w H h p (dicO p L) := by
  obtain ⟨o, es, ep, hg, ⟨c1, c2, c3⟩, he, hes, _⟩ := hd
  obtain ⟨L, p1, p2⟩ := r.entries (P := P)
  rw [← hes] at p1
  refine ⟨L, o, p2, hg, fun H => ⟨⟨es, ep, ?_, p1⟩, ⟨o, hg⟩, fun h1 h2 ⟨es', ep', g, r⟩ k => ⟨es', ep', k _ g, r⟩⟩⟩
  rw [hg]
  obtain ⟨o1, o2, o3, o4⟩ := o
  cases c1; cases c2; cases c3; cases he
  rfl
theorem of_entriesH {L : List (Int × V × V)} {el : List DictEntry} (pr : Paired EntR L el) : ∀ {ds : List (D × D)}, DtE w G L ds → (∀ p ∈ ds, KT.t.of p.1 = true) →
    ∃ xs : List (NestedKey × Addr × Value), el = xs.map (entryOfKey (nestedKind P w)) ∧ RH w G xs ds := by
  induction pr with
  | nil =>
    intro ds r _
    cases r
    exact ⟨[], rfl, .nil⟩
  | cons h pr ih =>
    intro ds r hk
    cases r with
    | cons q a b r =>
      rename_i e L el kv vv dk dv nk ds
      obtain ⟨xs, p1, p2⟩ := ih r fun p hp => hk p (List.mem_cons_of_mem _ hp)
      have hd := hk _ List.mem_cons_self
      simp only at hd
      cases a with
      | tup eg rr =>
        rename_i ad xs' ds'
        obtain ⟨h1, h2, h3⟩ := h
        cases h2' : e with
        | mk hh kk vvv =>
          subst h2'
          simp only at h1 h2 h3
          subst h1
          cases h2
          exact ⟨(nk, ad, vvv) :: xs, by rw [p1]; rfl, .cons q (.tup eg rr) b h3 p2⟩
      | _ => cases hd
theorem RH.nks : ∀ {xs : List (NestedKey × Addr × Value)} {ds : List (D × D)}, RH w G xs ds → (ds.map fun p => p.1.nk) = (xs.map (·.1)).map some
  | _, _, .nil => rfl
  | _, _, .cons e _ _ _ r => by
    rw [List.map_cons, List.map_cons, List.map_cons, RH.nks r, e]
theorem RH.is (ok : HOk P w H h) (hG : ∀ a o, G a = some o → H a = some o) : ∀ {xs : List (NestedKey × Addr × Value)} {ds : List (D × D)}, RH w G xs ds → (∀ p ∈ ds, ∀ k, p.1.nk = some k → k.depth ≤ 8) → ∀ x ∈ xs, (nestedKind P w).is h x.1 x.2.1
  | _, _, .nil, _, x, hx => by cases hx
  | _, _, .cons e a b c r, hd, x, hx => by
    rcases List.mem_cons.mp hx with z | z
    · subst z
      exact ⟨Dt.nested ok hG a rfl e, hd _ List.mem_cons_self _ e⟩
    · exact RH.is ok hG r (fun p hp => hd p (List.mem_cons_of_mem _ hp)) x z
theorem of_dicH {p : Addr} {L : List (Int × V × V)} {ds : List (D × D)} (ok : HOk P w H h) (hG : ∀ a o, G a = some o → H a = some o) (hp : ObjOk P w H h p (dicO p L)) (r : DtE w G L ds) (hk : ∀ p ∈ ds, KT.t.of p.1 = true) (hn : (ds.map fun p => p.1.nk).Nodup) (hd : ∀ p ∈ ds, ∀ k, p.1.nk = some k → k.depth ≤ 8) :
    ∃ xs, h.DictOfH (nestedKind P w) p xs ∧ RH w G xs ds := by
  obtain ⟨⟨es, ep, g, pr⟩, _, _⟩ := hp
  obtain ⟨xs, p1, p2⟩ := of_entriesH (P := P) (el := es.toList) pr r hk
  refine ⟨xs, ⟨_, es, ep, g, ⟨rfl, rfl, rfl⟩, rfl, p1, p2.is ok hG hd, ?_⟩, p2⟩
  rw [p2.nks] at hn
  exact (List.pairwise_map.mp hn).imp fun {a b} hne hab => hne (by rw [hab])
end
/-! ### dict([..]) -/
section
variable {X : Cx}
/-- what dict(list of pairs) asks -/
def rDictL (w : World) (kd : List (D × D) → Prop) : List V → Hp → VK → Prop := fun vs H Q => ∃ (a : Addr) (xs : List V) (kvs : List (D × D)) (G : Hp), vs = [.ref a] ∧ H a = some (.lst xs) ∧ DtL w G xs (kvs.map prD) ∧ (∀ b o, G b = some o → H b = some o) ∧ kd kvs ∧ kvs.length ≤ sizeLine ∧
  ∀ q L ob, H q = none → (q == sysModules) = false → DtE w G L (dmrg [] kvs) → Q (.ref q) (upd H q (.frz ob (dicO q L)))
theorem rq_rp {P : Program} {w : World} {G : Hp} {K : Type} [DecidableEq K] {knd : KeyKind P w K} {ek : K → D} {vk : K → V} {nkk : K → NestedKey} (x : KX P w knd ek vk nkk) : ∀ {ps : List (Value × Value)} {kvs : List (D × D)}, RQ w G ps kvs → (∀ p ∈ kvs, ∃ k, p.1 = ek k) →
    ∃ zs : List (K × Value), RP w G ek zs kvs ∧ zs.length = ps.length ∧ ∀ (i : Nat) (key v : Value), ps[i]? = some (key, v) → ∃ k, zs[i]? = some (k, v) ∧ knd.is k key = true
  | _, _, .nil, _ => ⟨[], .nil, rfl, fun i key v e => by simp at e⟩
  | _, _, .cons (ku := ku) (vu := vu) a b c d r, hk => by
    obtain ⟨zs, h1, h2, h3⟩ := rq_rp x r fun p hp => hk p (List.mem_cons_of_mem _ hp)
    obtain ⟨k, e⟩ := hk _ List.mem_cons_self
    simp only at e
    subst e
    cases x.v_of a
    refine ⟨(k, vu) :: zs, .cons c d h1, by simp [h2], fun i key v e => ?_⟩
    cases i with
    | zero =>
      simp at e
      obtain ⟨rfl, rfl⟩ := e
      exact ⟨k, rfl, x.is_ b⟩
    | succ i =>
      obtain ⟨k', z1, z2⟩ := h3 i key v (by simpa using e)
      exact ⟨k', by simpa using z1, z2⟩
theorem rq_rh {w : World} {G : Hp} : ∀ {ps : List (Value × Value)} {kvs : List (D × D)}, RQ w G ps kvs → (∀ p ∈ kvs, KT.t.of p.1 = true) → (∀ p ∈ kvs, ∃ k, p.1.nk = some k ∧ k.depth ≤ 8) →
    ∃ zs : List (NestedKey × Addr × Value), RH w G zs kvs ∧ zs.length = ps.length ∧ ∀ (i : Nat) (key v : Value), ps[i]? = some (key, v) → ∃ k b, zs[i]? = some (k, b, v) ∧ key = Value.ref b
  | _, _, .nil, _, _ => ⟨[], .nil, rfl, fun i key v e => by simp at e⟩
  | _, _, .cons (ku := ku) (vu := vu) (k := kd) a b c d r, hk, hd => by
    obtain ⟨zs, h1, h2, h3⟩ := rq_rh r (fun p hp => hk p (List.mem_cons_of_mem _ hp)) fun p hp => hd p (List.mem_cons_of_mem _ hp)
    have e := hk _ List.mem_cons_self
    obtain ⟨k, e2, _⟩ := hd _ List.mem_cons_self
    simp only at e e2
    cases a with
    | tup eg rr =>
      rename_i ad xs' ds'
      cases b
      refine ⟨(k, ad, vu) :: zs, .cons e2 (.tup eg rr) c d h1, by simp [h2], fun i key v e => ?_⟩
      cases i with
      | zero =>
        simp at e
        obtain ⟨rfl, rfl⟩ := e
        exact ⟨k, ad, rfl, rfl⟩
      | succ i =>
        obtain ⟨k', b', z1, z2⟩ := h3 i key v (by simpa using e)
        exact ⟨k', b', by simpa using z1, z2⟩
    | _ => cases e
theorem list_arg {pins : List (Addr × Obj)} {σ : L2.St} {H : Hp} {s : Shared} (I : L2.Inv X pins σ H s) {a : Addr} {xs : List V} (hH : H a = some (.lst xs)) : ∃ us : List Value, Vals xs us ∧ PlainSeq "list" s.heap a us.toArray := by
  obtain ⟨z, its, n, r, hl, e⟩ := I.lstM hH
  exact ⟨its, r, _, n, e, rfl, rfl, rfl⟩
theorem pairItems_of {h : Heap} {us : List Value} {ts : List Addr} {ps : List (Value × Value)} (e : us = ts.map Value.ref) (hl : ts.length = ps.length) (hp : ∀ (j : Nat) (k v : Value), ps[j]? = some (k, v) → ∃ t, ts[j]? = some t ∧ PairAt h t k v) :
    PairItems h us.toArray (fun j => (ts[j]?).getD 0) ps := by
  refine ⟨by rw [List.size_toArray, e, List.length_map, hl], fun j k v q => ?_⟩
  obtain ⟨t, h1, h2⟩ := hp j k v q
  refine ⟨?_, ?_⟩
  · rw [List.getElem?_toArray, e, List.getElem?_map, h1]
    show some (Value.ref t) = some (Value.ref ((ts[j]?).getD 0))
    rw [h1]
    rfl
  · show PairAt h ((ts[j]?).getD 0) k v
    rw [h1]
    exact h2
theorem call_dictL {K : Type} [DecidableEq K] {knd : KeyKind X.prog X.w K} {ek : K → D} {vk : K → V} {nkk : K → NestedKey} (hc : X.calm = true) (x : KX X.prog X.w knd ek vk nkk) : CallR X (.type "dict") (rDictL X.w fun kvs => ∀ p ∈ kvs, ∃ k, p.1 = ek k) := by
  intro pins s σ H vs us Q I rs ⟨a, xs, kvs, G, e, hH, hL, hG, hk, hl, k⟩
  subst e
  obtain ⟨u, rfl, ru⟩ := vals1 rs
  cases ru
  obtain ⟨its, rv, pl⟩ := list_arg I hH
  obtain ⟨ts, ps, e1, e2, rq, e4⟩ := pairs_of I hG rv hL
  obtain ⟨zs, rp, l1, l2⟩ := rq_rp x rq hk
  have pi := pairItems_of e1 (e2.trans rq.length.symm) e4
  refine call_dict_pairs (PairArg.list a its.toArray _ ps) (I.ok.hd hc) ⟨pl, pi⟩ ⟨l1, fun i key v h => l2 i key v h⟩ (by rw [rq.length]; exact hl) fun h' tk hd hk' => ?_
  have rm := RP.mrg x (zs := []) (ds := []) .nil rp
  obtain ⟨L, ob, hE, gob, hok⟩ := to_dic x hd rm
  exact ⟨.ref _, _, I.laid (o := .frz ob (dicO s.heap.objs.size L)) (t' := tk) (fun b o e => hk' b o (by simp) e) (Nat.le_refl _) ⟨gob, hok _⟩, rfl, k _ L ob (I.hok.fresh (Nat.le_refl _)) I.notMod hE⟩
theorem call_dictLH (hc : X.calm = true) (hu : X.A.units + 10 < cLine) : CallR X (.type "dict") (rDictL X.w fun kvs => (∀ p ∈ kvs, KT.t.of p.1 = true) ∧ ∀ p ∈ kvs, ∃ k, p.1.nk = some k ∧ k.depth ≤ 8) := by
  intro pins s σ H vs us Q I rs ⟨a, xs, kvs, G, e, hH, hL, hG, hk, hl, k⟩
  subst e
  obtain ⟨u, rfl, ru⟩ := vals1 rs
  cases ru
  obtain ⟨its, rv, pl⟩ := list_arg I hH
  obtain ⟨ts, ps, e1, e2, rq, e4⟩ := pairs_of I hG rv hL
  obtain ⟨zs, rh, l1, l2⟩ := rq_rh rq hk.1 hk.2
  have pi := pairItems_of e1 (e2.trans rq.length.symm) e4
  have his : ∀ x ∈ zs, (nestedKind X.prog X.w).is s.heap x.1 x.2.1 := rh.is I.hok hG fun p hp k' e => by
    obtain ⟨k'', e', h'⟩ := hk.2 p hp
    rw [e] at e'
    cases e'
    exact h'
  refine call_dict_pairsH (knd := nestedKind X.prog X.w) (ps := zs) (PairArg.list a its.toArray _ ps) (I.ok.hd hc) (by show X.A.in1.in1.units + 8 < cLine; show X.A.units + 1 + 1 + 8 < _; omega) ⟨pl, pi⟩ ⟨l1, fun i key v h => l2 i key v h⟩
    (fun h' hk' x hx => ⟨NestedIs.at (fun b o vs n e _ => hk' b o (Nat.ne_of_lt (Heap.lt_size e)) (by simp) e) _ _ (his x hx).1, (his x hx).2⟩) (by rw [rq.length]; exact hl) fun h' tk hd hk' => ?_
  have rm := RH.mrg (zs := []) (ds := []) .nil rh
  obtain ⟨L, ob, hE, gob, hok⟩ := to_dicH hd rm
  exact ⟨.ref _, _, I.laid (o := .frz ob (dicO s.heap.objs.size L)) (t' := tk) (fun b o e => hk' b o (by simp) e) (Nat.le_refl _) ⟨gob, hok _⟩, rfl, k _ L ob (I.hok.fresh (Nat.le_refl _)) I.notMod hE⟩
variable {T : List Addr} {ρ : List (Option D)} {M M1 M2 M3 : Mem} {d da db : D} {a b c e o : Expr} {pos p : Pos} {ds : List D}
theorem ok_dictL {kd : List (D × D) → Prop} {kvs : List (D × D)} (l : LV M da (kvs.map prD)) (hk : kd kvs) (ho : KOk kvs) (hl : kvs.length ≤ sizeLine) {w : World} : OkC w T M (rDictL w kd) [da] (.dic (dmrg [] kvs)) := fun G H vs Q hs r k => by
  obtain ⟨v, rfl, rr⟩ := r.one
  obtain ⟨q, xs, rfl, e, rx⟩ := l.get hs rr
  exact ⟨q, xs, kvs, G, rfl, e, rx, hs.sub, hk, hl, fun q' L ob hq hsy hE => k _ _ _ (Step.newI hs hq) (hs.new hq fun _ z => by cases z) (.dic upd_same (hE.up (up_upd (hs.freshG hq))) (DicOk.of ho hsy hl))⟩
theorem pd_dictI {ps : List (Int × D)} (l : LV M1 da ((ps.map eI).map prD)) (hl : ps.length ≤ sizeLine) (hm : X.mg "dict" = none) (ha : PD X T ρ M a da M1) (hc : X.calm = true := by rfl) (hg : Gl X "dict" := by rfl) (he : starEach [a] X.env = (false, eval a X.env) :: starEach [] X.env := by rfl) :
    PD X T ρ M (.Call (.Name "dict" p) [a] [] pos) (.dic (dmrg [] (ps.map eI))) M1 :=
  pd_callT (call_dictL hc (kx_int _ _)) (ok_dictL l (fun p hp => by obtain ⟨z, _, rfl⟩ := List.mem_map.mp hp; exact ⟨z.1, rfl⟩) (kok_int ps) (by rw [List.length_map]; exact hl)) hm (by decide +kernel) (pdl_1 ha he) hg (by decide) (by decide) he
theorem pd_dictH {kvs : List (D × D)} (hu : X.A.units + 10 < cLine) (l : LV M1 da (kvs.map prD)) (hk : ∀ p ∈ kvs, KT.t.of p.1 = true) (hd : ∀ p ∈ kvs, ∃ k, p.1.nk = some k ∧ k.depth ≤ 8) (hl : kvs.length ≤ sizeLine) (hm : X.mg "dict" = none) (ha : PD X T ρ M a da M1) (hc : X.calm = true := by rfl) (hg : Gl X "dict" := by rfl) (he : starEach [a] X.env = (false, eval a X.env) :: starEach [] X.env := by rfl) :
    PD X T ρ M (.Call (.Name "dict" p) [a] [] pos) (.dic (dmrg [] kvs)) M1 :=
  pd_callT (call_dictLH hc hu) (ok_dictL l ⟨hk, hd⟩ ⟨⟨.t, hk⟩, hd⟩ hl) hm (by decide +kernel) (pdl_1 ha he) hg (by decide) (by decide) he
/-! ### d.get(..), keys by value -/
def rGet (P : Program) (w : World) {K : Type} (ek : K → D) (vk : K → V) : V → List V → Hp → VK → Prop := fun v us H Q => ∃ (a : Addr) (L : List (Int × V × V)) (kvs : List (D × D)) (G : Hp) (k : K) (dflt : V), v = .ref a ∧ Rd H a (dicO a L) ∧ DtE w G L kvs ∧ DicOk a kvs ∧ (∀ p ∈ kvs, ∃ k, p.1 = ek k) ∧
  ((us = [vk k] ∧ dflt = .non) ∨ us = [vk k, dflt]) ∧ (dget kvs (ek k) = none → Q dflt H) ∧ ∀ d x, dget kvs (ek k) = some d → Dt w G x d → Q x H
theorem mt_getX {K : Type} [DecidableEq K] {knd : KeyKind X.prog X.w K} {ek : K → D} {vk : K → V} {nkk : K → NestedKey} (x : KX X.prog X.w knd ek vk nkk) : MtR X "dict.get" (rGet X.prog X.w ek vk) := by
  intro pins s σ H v us u vs Q I rv rs ⟨a, L, kvs, G, k, dflt, e, hR, hE, hD, hk, hus, q1, q2⟩
  subst e
  cases rv
  obtain ⟨zs, hd, rp⟩ := of_dic x (rd_ok I hR) hE hk hD.nd
  have fin : ∀ (z : Value) (dv : Value), RelV dflt dv → z = (valueAt zs k).getD dv → EP X pins σ Q z { s with toks := s.toks + 1 } := fun z dv rd ez => by
    subst ez
    rcases rp.get x k with ⟨e1, e2⟩ | ⟨u, y, d, e1, e2, r1, r2⟩
    · rw [e1]
      exact ⟨dflt, H, I.tok _, rd, q1 e2⟩
    · rw [e1]
      exact ⟨y, H, I.tok _, r1, q2 d y e2 r2⟩
  rcases hus with ⟨rfl, rfl⟩ | rfl
  · obtain ⟨ku, rfl, rk⟩ := vals1 rs
    exact call_meetsIn F.slot_dict_get hd.typeIs F.entry_dict_get (F.args_dict_get_2 _ _) (meets_dict_get knd a (x.is_ rk) hD.sys) ⟨_, hd.mapOf, fin _ _ rfl rfl⟩
  · obtain ⟨ku, du, rfl, rk, rd⟩ := vals2 rs
    exact call_meetsIn F.slot_dict_get hd.typeIs F.entry_dict_get (F.args_dict_get_3 _ _ _) (meets_dict_get_default knd a (x.is_ rk) hD.sys du) ⟨_, hd.mapOf, fin _ _ rd rfl⟩
theorem DV.ty {w : World} {kvs : List (D × D)} (l : DV M1 da kvs) (G H : Hp) (v : V) (hs : HS w T G H M1) (r : Dt w G v da) : tyD "dict" v H := by
  obtain ⟨a, L, rfl, e, _⟩ := l.get hs r
  exact .inr (.inl ⟨rfl, a, L, rfl, e⟩)
theorem pd_get1 {ps : List (Int × D)} {i : Int} {apos : Pos} (l : DV M1 da (ps.map eI)) (l2 : DV M2 da (ps.map eI)) (ho : PD X T ρ M o da M1) (ha : PD X T ρ M1 e (.int i) M2)
    (hbase : attributeBase o "get" X.env (eval o X.env) = eval o X.env := by rfl)
    (hfew : ((backTo pos (starEach [e] X.env)).all (fun x => !x.1) && (backToKw pos (keywordEach [] X.env)).all (fun x => x.1.isSome)
      && decide ([e].length + ([] : List Keyword).length + (if ([] : List Keyword).isEmpty then 0 else 1) < 30)) = true := by rfl)
    (hline : (apos.endLine == pos.line) = true := by rfl) (hs : starEach [e] X.env = (false, eval e X.env) :: starEach [] X.env := by rfl) : PD X T ρ M (.Call (.Attribute o "get" apos) [e] [] pos) ((dget (ps.map eI) (.int i)).getD .non) M2 := by
  refine pd_m F.plainAttrs_dict F.slot_dict_get rfl (mt_getX (kx_int _ _)) ho (pdl_1 ha hs) l.ty (fun G H v us Q hs' r1 r2 k => ?_) hbase hfew hline hs rfl
  obtain ⟨u, rfl, ru⟩ := r2.one
  cases ru
  obtain ⟨a, L, rfl, eR, hE, hD⟩ := l2.get hs' r1
  refine ⟨a, L, _, G, i, .non, rfl, eR, hE, hD, fun p hp => by obtain ⟨z, _, rfl⟩ := List.mem_map.mp hp; exact ⟨z.1, rfl⟩, .inl ⟨rfl, rfl⟩, fun e => ?_, fun d x e r => ?_⟩
  · exact k _ G H (Step.refl _ _ _) hs' (by rw [e]; exact .non)
  · exact k _ G H (Step.refl _ _ _) hs' (by rw [e]; exact r)
theorem pd_get2 {ps : List (Int × D)} {i : Int} {apos : Pos} (l : DV M1 da (ps.map eI)) (l2 : DV M3 da (ps.map eI)) (ho : PD X T ρ M o da M1) (ha : PD X T ρ M1 e (.int i) M2) (hb : PD X T ρ M2 b db M3)
    (hbase : attributeBase o "get" X.env (eval o X.env) = eval o X.env := by rfl)
    (hfew : ((backTo pos (starEach [e, b] X.env)).all (fun x => !x.1) && (backToKw pos (keywordEach [] X.env)).all (fun x => x.1.isSome)
      && decide ([e, b].length + ([] : List Keyword).length + (if ([] : List Keyword).isEmpty then 0 else 1) < 30)) = true := by rfl)
    (hline : (apos.endLine == pos.line) = true := by rfl) (hs : starEach [e, b] X.env = (false, eval e X.env) :: starEach [b] X.env := by rfl) (hs2 : starEach [b] X.env = (false, eval b X.env) :: starEach [] X.env := by rfl) (hpl : (backTo pos (starEach [b] X.env)).any (·.1) = false := by rfl) : PD X T ρ M (.Call (.Attribute o "get" apos) [e, b] [] pos) ((dget (ps.map eI) (.int i)).getD db) M3 := by
  refine pd_m F.plainAttrs_dict F.slot_dict_get rfl (mt_getX (kx_int _ _)) ho (pdl_cons ha (pdl_1 hb hs2) hs) l.ty (fun G H v us Q hs' r1 r2 k => ?_) hbase hfew hline hs hpl
  obtain ⟨u, u2, rfl, ru, ru2⟩ := r2.two
  cases ru
  obtain ⟨a, L, rfl, eR, hE, hD⟩ := l2.get hs' r1
  refine ⟨a, L, _, G, i, u2, rfl, eR, hE, hD, fun p hp => by obtain ⟨z, _, rfl⟩ := List.mem_map.mp hp; exact ⟨z.1, rfl⟩, .inr rfl, fun e => ?_, fun d x e r => ?_⟩
  · exact k _ G H (Step.refl _ _ _) hs' (by rw [e]; exact ru2)
  · exact k _ G H (Step.refl _ _ _) hs' (by rw [e]; exact r)
end
end LW

set_option Elab.async false
set_option linter.all false
set_option maxRecDepth 100000
set_option maxHeartbeats 4000000
/-! LM: d.items(), len(d), sorted. -/
namespace LW
open PySem PySem.Spec PyProof.Rows L2
open Sem (wp)
mutual
theorem reads_lt {h : Heap} : ∀ {v : Value} {d : PyData} {as : List Addr}, Reads h v d as → ∀ b ∈ as, b < h.objs.size
  | _, _, _, .none, b, hb => by cases hb
  | _, _, _, .bool _, b, hb => by cases hb
  | _, _, _, .int _ _, b, hb => by cases hb
  | _, _, _, .str _ _, b, hb => by cases hb
  | _, _, _, .list e _ _ r, b, hb => by
    rcases List.mem_cons.mp hb with z | z
    · rw [z]; exact Heap.lt_size e
    · exact readsAll_lt r b z
  | _, _, _, .tuple e _ _ r, b, hb => readsAll_lt r b hb
  | _, _, _, .dict e _ _ r1 r2, b, hb => by
    rcases List.mem_append.mp hb with z | z
    · rcases List.mem_cons.mp z with z | z
      · rw [z]; exact Heap.lt_size e
      · exact readsAll_lt r1 b z
    · exact readsAll_lt r2 b z
theorem readsAll_lt {h : Heap} : ∀ {vs : List Value} {ds : List PyData} {as : List Addr}, ReadsAll h vs ds as → ∀ b ∈ as, b < h.objs.size
  | _, _, _, .nil, b, hb => by cases hb
  | _, _, _, .cons r1 r2, b, hb => by
    rcases List.mem_append.mp hb with z | z
    · exact reads_lt r1 b z
    · exact readsAll_lt r2 b z
end
theorem Paired.at_ {α β : Type} {F : α → β → Prop} : ∀ {xs : List α} {ys : List β}, Paired F xs ys → ∀ {i : Nat} {y : β}, ys[i]? = some y → ∃ x, xs[i]? = some x ∧ F x y
  | _, _, .nil, i, y, e => by simp at e
  | _, _, .cons h r, 0, y, e => by simp at e; subst e; exact ⟨_, rfl, h⟩
  | _, _, .cons h r, i + 1, y, e => by
    obtain ⟨x, h1, h2⟩ := Paired.at_ r (i := i) (by simpa using e)
    exact ⟨x, by simpa using h1, h2⟩
theorem Paired.len_ {α β : Type} {F : α → β → Prop} : ∀ {xs : List α} {ys : List β}, Paired F xs ys → xs.length = ys.length
  | _, _, .nil => rfl
  | _, _, .cons _ r => congrArg (· + 1) (Paired.len_ r)
theorem DtE.length {w : World} {G : Hp} : ∀ {L : List (Int × V × V)} {kvs : List (D × D)}, DtE w G L kvs → L.length = kvs.length
  | _, _, .nil => rfl
  | _, _, .cons _ _ _ r => congrArg (· + 1) (DtE.length r)
theorem DtE.get {w : World} {G : Hp} : ∀ {L : List (Int × V × V)} {kvs : List (D × D)}, DtE w G L kvs → ∀ {i : Nat} {p : D × D}, kvs[i]? = some p → ∃ z, L[i]? = some z ∧ Dt w G z.2.1 p.1 ∧ Dt w G z.2.2 p.2
  | _, _, .nil, i, p, e => by simp at e
  | _, _, .cons _ a b _, 0, p, e => by simp at e; subst e; exact ⟨_, rfl, a, b⟩
  | _, _, .cons _ _ _ r, i + 1, p, e => by
    obtain ⟨z, h1, h2⟩ := DtE.get r (i := i) (by simpa using e)
    exact ⟨z, by simpa using h1, h2⟩
section
variable {X : Cx} {pins : List (Addr × Obj)} {σ : L2.St} {H : Hp} {s : Shared}
/-- a dict that reads, raw -/
theorem raw_of {a : Addr} {L : List (Int × V × V)} (I : L2.Inv X pins σ H s) (h : Rd H a (dicO a L)) : ∃ es ep, s.heap.DictRaw a es ep ∧ es.size = L.length ∧ Paired EntR L es.toList := by
  obtain ⟨⟨es, ep, g, pr⟩, _, _⟩ := rd_ok I h
  exact ⟨es, ep, ⟨_, g, ⟨rfl, rfl, rfl⟩, rfl⟩, by rw [← Array.length_toList]; exact (Paired.len_ pr).symm, pr⟩
theorem raw_frz {a : Addr} {ob : Obj} {L : List (Int × V × V)} {es : Array DictEntry} {ep : Nat} (I : L2.Inv X pins σ H s) (h : H a = some (.frz ob (dicO a L))) (hod : ob.data = .dict es ep) : s.heap.DictRaw a es ep ∧ es.size = L.length ∧ Paired EntR L es.toList := by
  obtain ⟨g, ⟨es', ep', g', pr⟩, _, _⟩ := I.hok a _ h
  rw [g] at g'
  cases g'
  cases hod
  exact ⟨⟨_, g, ⟨rfl, rfl, rfl⟩, rfl⟩, by rw [← Array.length_toList]; exact (Paired.len_ pr).symm, pr⟩
end
def Itm (d : Addr) (ob : Obj) (L : List (Int × V × V)) : It :=
  ⟨fun i H => H d = some (.frz ob (dicO d L)) ∧ i < L.length, fun i H v H' => ∃ T z, L[i]? = some z ∧ v = .ref T ∧ H T = none ∧ H' = upd H T (.tup [z.2.1, z.2.2]), fun i H => H d = some (.frz ob (dicO d L)) ∧ i = L.length⟩
section
variable {P : Program} {w : World} {K : PySem.W.Frag} {d : Addr} {ob : Obj} {es : Array DictEntry} {ep : Nat}
theorem turn_itm {L : List (Int × V × V)} {elts : List Expr} {kk : Nat} {tpos : Pos} (it : Addr) (hod : ob.data = .dict es ep) :
    Turn P w K (.Tuple elts kk tpos) (Itm d ob L) [it] it (fun i h => ∃ ok ov, IsItemIter h it d i es.size ep ok ov) where
  mem := by simp
  obj := fun i h st b hb => by
    have e : b = it := by simpa using hb
    subst e
    obtain ⟨ok, ov, e⟩ := st
    exact ⟨_, e, fun v z => nomatch z⟩
  keep := fun i h h' st k => let ⟨ok, ov, e⟩ := st; ⟨ok, ov, k it (by simp) _ e⟩
  item := by
    intro X hP hw hK hc i pins s σ H E I hf st hg
    subst hP hw hK
    obtain ⟨hd, hi⟩ := hg
    obtain ⟨raw, hsz, pr⟩ := raw_frz I hd hod
    obtain ⟨ok, ov, he⟩ := st
    have hi' : i < es.size := by rw [hsz]; exact hi
    have hlt : it < s.heap.objs.size := Heap.lt_size he
    obtain ⟨z, hz, h1, h2, h3⟩ := Paired.at_ pr (i := i) (y := es[i]) (by rw [Array.getElem?_toList]; exact Array.getElem?_eq_getElem hi')
    refine wpAny_pyNext_items_item_raw he raw hi' fun h' ho hT hz' hk => ?_
    refine ⟨_, rfl, wpAny_letOwnedTupleGo_items (s := { s with heap := h' }) ho fun h'' he' sb => ?_⟩
    have hT2 : h''.get? s.heap.objs.size = some { cls := .type "tuple", data := .seq #[es[i].key, es[i].val] } := (sb.2 _ (Nat.ne_of_gt hlt)).trans hT
    have new : ObjOk X.prog X.w (upd H s.heap.objs.size (.tup [z.2.1, z.2.2])) h'' s.heap.objs.size (.tup [z.2.1, z.2.2]) :=
      ⟨by show 2 ≤ sizeLine; decide, [es[i].key, es[i].val], .cons h2 (.cons h3 .nil), ⟨_, hT2, rfl, _, rfl⟩⟩
    have I1 : L2.Inv X pins σ (upd H s.heap.objs.size (.tup [z.2.1, z.2.2])) { s with heap := h'' } :=
      I.turnedNew (t' := s.toks) (ch := [it]) (fun b ob hb e => (sb.2 b (by simpa using hb)).trans (hk b ob (by simpa using hb) e)) hf (Nat.le_refl _) new
    refine ⟨.ref s.heap.objs.size, _, I1, rfl, ⟨_, z, hz, rfl, I.hok.fresh (Nat.le_refl _), rfl⟩, ⟨_, _, he'⟩, fun b hb => ?_⟩
    have e : b = it := by simpa using hb
    rw [e, upd_ne (Nat.ne_of_lt hlt)]
    exact (hf it (by simp)).1
  done := by
    intro X hP hw hK hc i pins s σ H E I hf st hg
    subst hP hw hK
    obtain ⟨hd, hi⟩ := hg
    obtain ⟨f0, f1, f2, f3, f4, f5⟩ := hf it (by simp)
    obtain ⟨raw, hsz, pr⟩ := raw_frz I hd hod
    obtain ⟨ok, ov, he⟩ := st
    exact wpAny_pyNext_items_end_raw (I.ok.hd hc) he raw (by rw [hsz, hi]; exact Nat.le_refl _) fun h' eb => ⟨rfl, I.turned (t' := s.toks) (fun b ob hb e => eb b ob hb e) f0 f1 f3 f4 f5⟩
  self := fun A i s Q E st h => let ⟨_, _, e⟩ := st; PySem.W.kcp_self e h
end
section
variable {X : Cx} {T : List Addr} {ρ : List (Option D)} {M M1 M2 M3 : Mem} {d da db : D} {a b c e o : Expr} {pos p apos cpos tpos : Pos} {ds : List D} {elts : List Expr} {kk : Nat}
theorem pi_itm {td : TE} (he : PE X e td) (hbase : attributeBase e "items" X.env (eval e X.env) = eval e X.env := by rfl) (hline : (apos.endLine == cpos.line) = true := by rfl) :
    PI X (.Tuple elts kk tpos) (.Call (.Attribute e "items" apos) [] [] cpos) (fun σ H R => td σ H fun x H1 => ∃ d ob L, x = .ref d ∧ (d == sysModules) = false ∧ H1 d = some (.frz ob (dicO d L)) ∧ R (Itm d ob L) H1) := by
  refine ⟨fun pins s σ H R I h => ?_⟩
  refine wpAny_Call_method (T := "dict") (id := "dict.items") hbase rfl hline F.plainAttrs_dict F.slot_dict_items F.type_dict_items (thn (he.run pins s σ H _ I h) fun u s1 ⟨x, H1, I1, rx, d, ob, L, ex, hs, hd, q⟩ => ?_)
  subst ex
  obtain rfl : u = Value.ref d := rx
  obtain ⟨es, ep, raw, hsz, pr⟩ := raw_of I1 (.inr ⟨_, hd⟩)
  have hod : ob.data = .dict es ep := by
    obtain ⟨g, _⟩ := I1.hok d _ hd
    obtain ⟨o, g', _, dd⟩ := raw
    rw [g] at g'
    cases g'
    exact dd
  refine ⟨raw.typeIs, fun b e => ?_, ?_⟩
  · cases e
    obtain ⟨o, g', c, _⟩ := raw
    exact ⟨o, g', c.2.1⟩
  have I2 : L2.Inv X pins σ H1 { s1 with heap := s1.heap.push { cls := .type "dict_items", data := .fields #[.ref d] } } := I1.kept (t' := s1.toks) fun b ob q => Heap.get?_push_of_some _ q
  have fin : wpAny (model X.prog X.w) X.A (pyIter (.ref s1.heap.objs.size)) (PIE X pins σ (.Tuple elts kk tpos) R) X.xe { s1 with heap := s1.heap.push { cls := .type "dict_items", data := .fields #[.ref d] } } := by
    refine wpAny_pyIter_items_raw (d := d) ⟨_, Heap.get?_push_size _ rfl, rfl, rfl⟩ (raw.push _) (pi_one (tk := s1.toks) I2 _ (turn_itm _ hod) ⟨.none, .none, ?_⟩ q)
    exact Heap.get?_push_size _ rfl
  show wpAny _ _ (callWith cpos (.builtin "dict.items") [.ref d] [] []) _ X.xe s1
  exact method_meetsIn F.slot_dict_items F.entry_dict_items rfl (PySem.evalArgs_none ⟨rfl, raw.typeIs, F.args_dict_items_1 _, _, meets_dict_items_raw d hs, ⟨es, ep, raw⟩, fin⟩)
theorem pdi_items {kvs : List (D × D)} (h : PD X T ρ M e (.dic kvs) M1) (hbase : attributeBase e "items" X.env (eval e X.env) = eval e X.env := by rfl) (hline : (apos.endLine == cpos.line) = true := by rfl) :
    PDI X T ρ M (.Tuple elts kk tpos) (.Call (.Attribute e "items" apos) [] [] cpos) (kvs.map prD) M1 (fun _ => True) :=
  (pi_itm h hbase hline).imp fun σ H R ⟨G, hs, sl, k⟩ => ⟨G, hs, sl, fun v G1 H1 st hs1 r => by
    cases r with
    | dic eg hE hD =>
      rename_i a ob L
      refine ⟨a, ob, L, rfl, hD.sys, hs1.sub _ _ eg, k _ G1 H1 st hs1 ⟨fun i G2 H2 M2 hi st2 hs2 _ => ?_, fun i G2 H2 M2 x H' d st2 hs2 _ hd hy => ?_, fun G2 H2 M2 st2 hs2 _ => ?_⟩⟩
      · exact ⟨hs2.sub _ _ (st2.up _ _ eg), by rw [hE.length]; simpa using hi⟩
      · obtain ⟨Ta, z, hz, rfl, hn, rfl⟩ := hy
        rw [List.getElem?_map] at hd
        cases e1 : kvs[i]? with
        | none => rw [e1] at hd; cases hd
        | some p =>
          rw [e1] at hd
          cases hd
          obtain ⟨z', hz', r1, r2⟩ := hE.get e1
          rw [hz] at hz'
          cases hz'
          exact ⟨_, Step.newI hs2 hn, (hs2.new hn fun _ z => by cases z), .tup upd_same (.cons (r1.up fun a o e => up_upd (hs2.freshG hn) a o (st2.up a o e)) (.cons (r2.up fun a o e => up_upd (hs2.freshG hn) a o (st2.up a o e)) .nil))⟩
      · exact ⟨hs2.sub _ _ (st2.up _ _ eg), by rw [List.length_map, hE.length]⟩⟩
/-! ### len(d) -/
theorem call_len_dic : CallR X (.builtin "len") (fun xs H Q => ∃ (p : Addr) (L : List (Int × V × V)), xs = [.ref p] ∧ (p == sysModules) = false ∧ Rd H p (dicO p L) ∧ L.length ≤ sizeLine ∧ Q (.int ((L.length : Nat) : Int)) H) := by
  intro pins s σ H xs us Q I r ⟨p, L, e, hs, hR, hz, q⟩
  subst e
  obtain ⟨u, rfl, rx⟩ := vals1 r
  cases rx
  obtain ⟨es, ep, raw, hsz, pr⟩ := raw_of I hR
  refine Calls.call_function_entry kind_len plain_len entry_len (args_len1 _) ?_
  unfold Builtin.«len»
  refine wpAny_bind (m := oneArg "len" _) (wpAny_pure ?_)
  refine wpAny_bind (m := callSpecial? (.ref p) (Str.ofString "__len__")) (wpAny_callSpecial?_slot (name := Str.ofString "__len__") raw.typeIs F.slot_dict_len (call_len_raw hs raw ?_))
  refine wpAny_bind (wpAny_holding (wpAny_pure ?_))
  refine wpAny_bind (wpAny_letGo ?_)
  rw [sizeLine_eq] at hz
  show wpAny _ _ (if ((es.size : Nat) : Int) < 0 then _ else _) _ _ _
  rw [if_neg (by omega)]
  show wpAny _ _ (if ((es.size : Nat) : Int) ≥ 2 ^ 63 then _ else _) _ _ _
  rw [if_neg (by omega)]
  refine wpAny_bind (wpAny_mkInt (wpAny_pure ⟨_, rfl, ?_⟩))
  rw [hsz]
  exact ⟨.int ((L.length : Nat) : Int), H, (I.tok _).tok _, ⟨_, rfl⟩, q⟩
theorem pd_lenD {kvs : List (D × D)} (l : DV M1 da kvs) (hm : X.mg "len" = none) (ha : PD X T ρ M a da M1) (hg : Gl X "len" := by rfl) (he : starEach [a] X.env = (false, eval a X.env) :: starEach [] X.env := by rfl) :
    PD X T ρ M (.Call (.Name "len" p) [a] [] pos) (.int (kvs.length : Int)) M1 :=
  pd_callB call_len_dic (fun G H vs Q hs r k => by
    obtain ⟨v, rfl, rr⟩ := r.one
    obtain ⟨q, L, rfl, e, hE, hD⟩ := l.get hs rr
    exact ⟨q, L, rfl, hD.sys, e, by rw [hE.length]; exact hD.len, by rw [hE.length]; exact k _ G H (Step.refl _ _ _) hs (.int _)⟩) hm PySem.boot_len (pdl_1 ha he) hg (by decide) (by decide) he
/-! ### sorted -/
def pyD (d : D) : PyData := (d.py).getD .none
theorem pyD_of {d : D} {y : PyData} (h : d.py = some y) : pyD d = y := by unfold pyD; rw [h]; rfl
/-- values beside data, kept -/
theorem each_of {w : World} {G H : Hp} {s : Shared} {pins : List (Addr × Obj)} {σ : L2.St} (I : L2.Inv X pins σ H s) (hG : ∀ a o, G a = some o → H a = some o) {vs : List V} {us : List Value} (r : Vals vs us) : ∀ {ds : List D}, DtL w G vs ds → (∀ d ∈ ds, ∃ y, d.py = some y) →
    W.EachIs (fun u d => ∃ v : V, RelV v u ∧ Dt w G v d) us ds ∧ W.EachIs (fun u d => ∃ as, Reads s.heap u (pyD d) as) us ds := by
  induction r with
  | nil =>
    intro ds h _
    cases h
    exact ⟨.nil, .nil⟩
  | cons ra rb ih =>
    intro ds h hp
    cases h with
    | cons h1 h2 =>
      obtain ⟨e1, e2⟩ := ih h2 fun d hd => hp d (List.mem_cons_of_mem _ hd)
      obtain ⟨y, hy⟩ := hp _ List.mem_cons_self
      refine ⟨.cons ⟨_, ra, h1⟩ e1, .cons ?_ e2⟩
      rw [pyD_of hy]
      exact Dp.reads I y _ _ (Dt.dp (K := X.K) hG h1 hy) ra
theorem each_back {w : World} {G : Hp} : ∀ {us : List Value} {ds : List D}, W.EachIs (fun u d => ∃ v : V, RelV v u ∧ Dt w G v d) us ds → ∃ vs : List V, Vals vs us ∧ DtL w G vs ds
  | _, _, .nil => ⟨[], .nil, .nil⟩
  | _, _, .cons ⟨v, h1, h2⟩ r => by
    obtain ⟨vs, p1, p2⟩ := each_back r
    exact ⟨v :: vs, .cons h1 p1, .cons h2 p2⟩
/-- may be sorted -/
structure Srt (ds : List D) : Prop where
  py : ∀ d ∈ ds, ∃ y, d.py = some y
  alike : PySem.W.AllAlike (ds.map pyD)
  sortable : PySem.W.Sortable (ds.map pyD)
  dep : ∀ d ∈ ds, (pyD d).depth ≤ 60
  len : ds.length ≤ sizeLine
def sortD (ds : List D) : List D := ds.mergeSort (W.dataLe false pyD)
def rSortD (w : World) : List V → Hp → VK → Prop := fun vs H Q => ∃ (ds : List D) (G : Hp), (∀ b o, G b = some o → H b = some o) ∧ Srt ds ∧
  ((∃ a L kvs, vs = [.ref a] ∧ (a == sysModules) = false ∧ Rd H a (dicO a L) ∧ DtE w G L kvs ∧ ds = kvs.map (·.1)) ∨ ∃ a xs, vs = [.ref a] ∧ H a = some (.lst xs) ∧ DtL w G xs ds) ∧
  ∀ q ys, H q = none → DtL w G ys (sortD ds) → Q (.ref q) (upd H q (.lst ys))
theorem DtE.keys {w : World} {G : Hp} : ∀ {L : List (Int × V × V)} {kvs : List (D × D)}, DtE w G L kvs → DtL w G (L.map fun z => z.2.1) (kvs.map (·.1))
  | _, _, .nil => .nil
  | _, _, .cons _ a _ r => .cons a (DtE.keys r)
theorem vals_keys : ∀ {L : List (Int × V × V)} {el : List DictEntry}, Paired EntR L el → Vals (L.map fun z => z.2.1) (el.map (·.key))
  | _, _, .nil => .nil
  | _, _, .cons h r => .cons h.2.1 (vals_keys r)
theorem cr_sortD (hc : X.calm = true) (hu : X.A.units + 100 < cLine) : CallR X (.builtin "sorted") (rSortD X.w) := by
  intro pins s σ H vs us Q I rs ⟨ds, G, hG, hS, hsrc, k⟩
  have go : ∀ (x : Value) (its : List Value) (h' : Heap) (tk : Nat), L2.Inv X pins σ H { s with heap := h', toks := tk } → (∀ b o, s.heap.get? b = some o → h'.get? b = some o) → (∃ xs : List V, Vals xs its ∧ DtL X.w G xs ds) →
      wpAny (model X.prog X.w) X.A.in1 (do
        let l ← newList its
        let _ ← holding [l] (call (.builtin "list.sort") [l] [])
        ret l) (fun fin s' => ∃ v, fin = .done (.ret v) ∧ EP X pins σ Q v s') X.xe { s with heap := h', toks := tk } := by
    intro x its h' tk I1 hk ⟨xs, rv, rd⟩
    have hl : its.length = ds.length := by rw [← rv.length, rd.length]
    refine wpAny_bind (wpAny_newList ?_ (by rw [hl]; exact hS.len))
    have hoL : (h'.push (seqObj "list" its.toArray 0)).get? h'.objs.size = some (seqObj "list" its.toArray 0) := Heap.get?_push_size _ rfl
    have I2 : L2.Inv X pins σ (upd H h'.objs.size (.lst xs)) { s with heap := h'.push (seqObj "list" its.toArray 0), toks := tk } := I1.lnew (t' := tk) rv (by rw [rd.length]; exact hS.len)
    have nH : H h'.objs.size = none := I1.hok.fresh (Nat.le_refl _)
    have gH : G h'.objs.size = none := by
      cases e : G h'.objs.size with
      | none => rfl
      | some o => rw [hG _ _ e] at nH; cases nH
    show wpAny _ _ _ _ _ { s with heap := h'.push (seqObj "list" its.toArray 0), toks := tk }
    obtain ⟨e1, e2⟩ := each_of I1 hG rv rd hS.py
    have e2' : W.EachIs (fun u d => ∃ as, Reads (h'.push (seqObj "list" its.toArray 0)) u (pyD d) as ∧ h'.objs.size ∉ as) its ds := e2.mono fun u d ⟨as, r⟩ => ⟨as, PyProof.Rows.Reads.keeps (fun _ _ e => Heap.get?_push_of_some _ e) r, fun hm => Nat.lt_irrefl _ (reads_lt r _ hm)⟩
    refine wpAny_bind (wpAny_holding (W.list_sort_data (s := { s with heap := h'.push (seqObj "list" its.toArray 0), toks := tk }) hoL e1 e2' hS.alike hS.sortable hS.len (fun b hb => ?_) fun out ho eo => ?_))
    · have := hS.dep b hb
      show X.A.units + 1 + 1 + _ < _
      omega
    · obtain ⟨ys, ry, rd'⟩ := each_back eo
      obtain ⟨e', he'⟩ := PyProof.Rows.sortedHeap_at (vs := its) (out := out.toArray) hoL
      refine wpAny_pure ⟨_, rfl, .ref h'.objs.size, upd H h'.objs.size (.lst ys), I1.laid (t' := tk) (fun b u e => ?_) (Nat.le_refl _) (show ObjOk X.prog X.w _ _ _ (.lst ys) from ⟨by rw [ry.length, ho]; exact hS.len, out, e', ry, he'⟩), rfl, k _ ys nH rd'⟩
      have hb : b < h'.objs.size := Heap.lt_size e
      rw [PyProof.Rows.sortedHeap_old (Nat.ne_of_lt hb) (by rw [size_push']; exact Nat.lt_succ_of_lt hb)]
      exact Heap.get?_push_of_some _ e
  rcases hsrc with ⟨a, L, kvs, rfl, hsy, hR, hE, rfl⟩ | ⟨a, xs, rfl, hH, hx⟩
  · obtain ⟨u, rfl, ru⟩ := vals1 rs
    cases ru
    obtain ⟨es, ep, raw, hsz, pr⟩ := raw_of I hR
    refine Calls.call_function_entry PyProof.Rows.kind_sorted PyProof.Rows.plain_sorted PyProof.Rows.entry_sorted (PyProof.Rows.args_sorted1 _) ?_
    unfold Builtin.«sorted»
    refine wpAny_bind (m := checkCount "sorted" 1 1 _) (wpAny_pure ?_)
    refine wpAny_bind (PySem.W.kdu_collect (A := X.A.in1) (PySem.KdlSrc.rawDict (es := es) (ep := ep) hsy) (I.ok.hd hc) raw (by rw [hsz, hE.length]; have := hS.len; rw [List.length_map] at this; exact this) fun h' tk acc hk hacc => ?_)
    have hacc' : acc.toList = es.toList.map (·.key) := by
      refine List.ext_getElem? fun j => ?_
      rw [List.getElem?_map]
      by_cases hj : j < es.size
      · have hja : j < acc.size := by rw [hacc.1]; exact hj
        obtain ⟨hi, e⟩ := hacc.2 j acc[j] (Array.getElem?_eq_getElem hja)
        rw [Array.getElem?_toList, Array.getElem?_toList, Array.getElem?_eq_getElem hja, Array.getElem?_eq_getElem hj, e]
        rfl
      · rw [List.getElem?_eq_none (by rw [Array.length_toList, hacc.1]; omega), List.getElem?_eq_none (by rw [Array.length_toList]; omega)]
        rfl
    have I1 : L2.Inv X pins σ H { s with heap := h', toks := tk } := I.kept hk
    exact go .none acc.toList h' tk I1 hk ⟨_, by rw [hacc']; exact vals_keys pr, hE.keys⟩
  · obtain ⟨u, rfl, ru⟩ := vals1 rs
    cases ru
    obtain ⟨z, its, n, rv, hl, e⟩ := I.lstM hH
    refine Calls.call_function_entry PyProof.Rows.kind_sorted PyProof.Rows.plain_sorted PyProof.Rows.entry_sorted (PyProof.Rows.args_sorted1 _) ?_
    unfold Builtin.«sorted»
    refine wpAny_bind (m := checkCount "sorted" 1 1 _) (wpAny_pure ?_)
    refine wpAny_bind (collect_list ⟨_, e, rfl, _, rfl⟩ ?_ (by rw [← hl]; exact z))
    have hk : ∀ b o, s.heap.get? b = some o → ((s.heap.push (seqObj "list" #[] 0)).update s.heap.objs.size (Obj.mapSeq (· ++ its.toArray))).get? b = some o := fun b o q => by
      rw [Heap.get?_update_ne _ _ _ _ (Nat.ne_of_lt (Heap.lt_size q))]
      exact Heap.get?_push_of_some _ q
    exact go .none its _ s.toks (I.kept (t' := s.toks) hk) hk ⟨xs, rv, hx⟩
theorem pd_sortDic {kvs : List (D × D)} (l : DV M1 da kvs) (hS : Srt (kvs.map (·.1))) (hu : X.A.units + 100 < cLine) (hm : X.mg "sorted" = none) (ha : PD X T ρ M a da M1) (hc : X.calm = true := by rfl) (hg : Gl X "sorted" := by rfl) (he : starEach [a] X.env = (false, eval a X.env) :: starEach [] X.env := by rfl) :
    PD X T ρ M (.Call (.Name "sorted" p) [a] [] pos) (.lst (sortD (kvs.map (·.1)))) M1 :=
  pd_callB (cr_sortD hc hu) (fun G H vs Q hs r k => by
    obtain ⟨v, rfl, rr⟩ := r.one
    obtain ⟨q, L, rfl, e, hE, hD⟩ := l.get hs rr
    exact ⟨_, G, hs.sub, hS, .inl ⟨q, L, kvs, rfl, hD.sys, e, hE, rfl⟩, fun q' ys hq r => k _ _ _ (Step.newI hs hq) (hs.new hq fun _ z => by cases z) (.lst upd_same (r.up (up_upd (hs.freshG hq))))⟩) hm (by decide +kernel) (pdl_1 ha he) hg (by decide) (by decide) he
theorem pd_sortL (l : LV M1 da ds) (hS : Srt ds) (hu : X.A.units + 100 < cLine) (hm : X.mg "sorted" = none) (ha : PD X T ρ M a da M1) (hc : X.calm = true := by rfl) (hg : Gl X "sorted" := by rfl) (he : starEach [a] X.env = (false, eval a X.env) :: starEach [] X.env := by rfl) :
    PD X T ρ M (.Call (.Name "sorted" p) [a] [] pos) (.lst (sortD ds)) M1 :=
  pd_callB (cr_sortD hc hu) (fun G H vs Q hs r k => by
    obtain ⟨v, rfl, rr⟩ := r.one
    obtain ⟨q, xs, rfl, e, rx⟩ := l.get hs rr
    exact ⟨_, G, hs.sub, hS, .inr ⟨q, xs, rfl, e, rx⟩, fun q' ys hq r => k _ _ _ (Step.newI hs hq) (hs.new hq fun _ z => by cases z) (.lst upd_same (r.up (up_upd (hs.freshG hq))))⟩) hm (by decide +kernel) (pdl_1 ha he) hg (by decide) (by decide) he
end
end LW

set_option Elab.async false
set_option linter.all false
set_option maxRecDepth 100000
set_option maxHeartbeats 4000000
/-! LN: comprehensions known by a relation, min and max with a default, a tuple by an int, the script. -/
namespace LW
open PySem PySem.Spec PyProof.Rows L2
open Sem (wp)
section
variable {X : Cx} {T : List Addr} {ρ : List (Option D)} {M M1 M2 M3 : Mem} {d da db : D} {a b c e o elt iter tg : Expr} {pos p p2 tpos : Pos} {ds : List D} {ok : Mem → Prop} {scope : Scope} {g : TG} {is : List Nat} {unp : D → Option (List D)} {own : List (Str × Nat)}
/-! ### [elt for tg in iter] by a relation -/
theorem pdr_lc (R : Nat → List D → Mem → Prop) (hi : PDI X T ρ M tg iter ds M1 ok) (hN : X.N.Nodup) (bk : BlkOk X.N X.env.scope scope own) (hg : Blks X scope fun X' => PG X' tg g) (ht : Tgt X.w g is unp) (hv : ∀ i ∈ is, i ∈ own.map (·.2))
    (h0 : R 0 [] M1) (hok : ∀ i acc m, R i acc m → ok m) (hl : ∀ i acc m, R i acc m → acc.length ≤ 16000000) (hu : ∀ (i : Nat) (d : D), ds[i]? = some d → ∃ us, unp d = some us)
    (hee : ∀ (i : Nat) (d : D) (us : List D) acc m, ds[i]? = some d → unp d = some us → R i acc m → Blks X scope fun X' => PDR X' T (setsD (wipeD ρ (own.map (·.2))) is us) m elt (fun d' m' => R (i + 1) (acc ++ [d']) m'))
    (hc : X.calm = true := by rfl) (hs : ∀ x, foldedSetIterable iter X.env x = pure x := by intro _; rfl) : PDR X T ρ M (.ListComp elt [⟨tg, iter, [], 0⟩] scope pos) (fun d m => ∃ acc, d = .lst acc ∧ R ds.length acc m) := by
  have hbody : Blks X scope fun X' => PE X' elt (fun σ H Q => ∃ x : Nat × D × List D × List D × Mem, (ds[x.1]? = some x.2.1 ∧ unp x.2.1 = some x.2.2.1 ∧ R x.1 x.2.2.2.1 x.2.2.2.2) ∧ tER X.w T (setsD (wipeD ρ (own.map (·.2))) is x.2.2.1) x.2.2.2.2 (fun d' m' => R (x.1 + 1) (x.2.2.2.1 ++ [d']) m') σ H Q) := fun s H C cl fp =>
    PE.ex fun x => PE.exB fun q => hee x.1 x.2.1 x.2.2.1 x.2.2.2.1 x.2.2.2.2 q.1 q.2.1 q.2.2 s H C cl fp
  refine (pe_lc hc hN hi bk hg (fun s H C cl fp => pts_nil) hbody hs).imp fun σ H Q ⟨G, hs, sl, k⟩ => ?_
  generalize own.map (·.2) = vs at *
  refine ⟨G, hs, sl, fun J G1 H1 st1 hs1 it L hL => ?_⟩
  obtain ⟨a1, t1⟩ := hs1.own (ob := .lst []) (o := .lst []) hL (fun _ z => by cases z) fun H' e => ⟨[], e, .nil⟩
  refine ⟨fun i m H' => m = ds.length - i ∧ i ≤ ds.length ∧ ∃ G' acc M', R i acc M' ∧ Step G1 H1 M1 G' H' (M' ++ [some (L, .lst acc)]) ∧ HS X.w T G' H' (M' ++ [some (L, .lst acc)]), ⟨_, rfl, Nat.zero_le _, G1, [], M1, h0, t1, a1⟩, ?_⟩
  rintro i m H' ⟨rfl, hle, G', acc, M', hR, st', hs'⟩
  have hsl : HS X.w T G' H' M' := hs'.left
  have st0 : Step G1 H1 M1 G' H' M' := ⟨st'.up, st'.new, st'.keep, fun a h => st'.adr_ a (by rw [adr_app]; exact List.mem_append_left _ h)⟩
  by_cases hlt : i < ds.length
  · refine .inr ⟨it.go i G' H' _ hlt st0 hsl (hok i acc M' hR), fun H2 => ∃ m', m' < ds.length - i ∧ (m' = ds.length - (i + 1) ∧ i + 1 ≤ ds.length ∧ ∃ G2 acc2 M2, R (i + 1) acc2 M2 ∧ Step G1 H1 M1 G2 H2 (M2 ++ [some (L, .lst acc2)]) ∧ HS X.w T G2 H2 (M2 ++ [some (L, .lst acc2)])), fun H2 q => q, fun x H2 hy => ?_⟩
    have hd' : ds[i]? = some ds[i] := List.getElem?_eq_getElem hlt
    obtain ⟨us, hus⟩ := hu i _ hd'
    obtain ⟨G2, st2, hs2, r⟩ := it.yld i G' H' M' x H2 _ st0 hsl (hok i acc M' hR) hd' hy
    obtain ⟨st2', hs2'⟩ := frame_ok hs' st2 hs2
    refine ht.ok T x (L2.wipe σ vs) G2 H2 M' _ _ us hs2 r hus fun σ3 hsl3 hw => ⟨?_, ?_⟩
    · rw [hw vs hv]
      exact wipe_wipe fun _ h => h
    · dsimp only [tYes]
      rw [if_pos rfl]
      refine ⟨(i, ds[i], us, acc, M'), ⟨hd', hus, hR⟩, G2, hs2, hsl3 _ (((sl.up st1.up).up (st'.up)).up st2.up |>.wipe vs), fun y G5 H5 d5 M5 hR5 st5 hs5 ry => ?_⟩
      obtain ⟨st5', hs5'⟩ := frame_ok hs2' st5 hs5
      obtain ⟨g0, xacc, hacc, racc⟩ := hs5'.mem L (.lst acc) (List.mem_append_right _ List.mem_cons_self)
      have hj : (M5 ++ [some (L, Ob.lst acc)])[M5.length]? = some (some (L, .lst acc)) := by
        rw [List.getElem?_append_right (Nat.le_refl _), Nat.sub_self]
        rfl
      have hset : (M5 ++ [some (L, Ob.lst acc)]).set M5.length (some (L, .lst (acc ++ [d5]))) = M5 ++ [some (L, .lst (acc ++ [d5]))] := by
        rw [List.set_append_right _ _ (Nat.le_refl _), Nat.sub_self]
        rfl
      obtain ⟨a6, t6⟩ := hs5'.put (ob' := .lst (acc ++ [d5])) (o := .lst (xacc ++ [y])) hj (fun _ z => by cases z) fun H' e => ⟨_, e, racc.app (.cons ry .nil)⟩
      rw [hset] at a6 t6
      refine ⟨xacc, hacc, ?_, _, by omega, rfl, hlt, G5, acc ++ [d5], M5, hR5, (((st'.trans st2').trans st5').trans t6), a6⟩
      have := hl i acc M' hR
      rw [racc.length]
      show acc.length < 16777216
      omega
  · have e : i = ds.length := Nat.le_antisymm hle (Nat.le_of_not_lt hlt)
    subst e
    refine .inl ⟨it.stop G' H' _ st0 hsl (hok _ _ _ hR), ?_⟩
    obtain ⟨g0, xacc, hacc, racc⟩ := hs'.mem L (.lst acc) (List.mem_append_right _ List.mem_cons_self)
    have hj : (M' ++ [some (L, Ob.lst acc)])[M'.length]? = some (some (L, .lst acc)) := by
      rw [List.getElem?_append_right (Nat.le_refl _), Nat.sub_self]
      rfl
    obtain ⟨a6, t6⟩ := hs'.freeze hj hacc fun _ z => by cases z
    have hset : (M' ++ [some (L, Ob.lst acc)]).set M'.length none = M' ++ [none] := by
      rw [List.set_append_right _ _ (Nat.le_refl _), Nat.sub_self]
      rfl
    rw [hset] at a6 t6
    have t7 := (st1.trans st').trans t6
    exact k (.ref L) _ H' _ _ ⟨acc, rfl, hR⟩ ⟨t7.up, t7.new, t7.keep, fun a h => t7.adr_ a (by rw [adr_app]; exact List.mem_append_left _ h)⟩ a6.left (.lst upd_same (racc.up (up_upd g0)))
/-! ### min, max of a list of ints with default= -/
def rBestDf (best : Int → List Int → Int) : List V → List V → Hp → VK → Prop := fun vs zs H Q => ∃ (a : Addr) (ns : List Int) (z : V), vs = [.ref a] ∧ zs = [z] ∧ H a = some (.lst (ns.map V.int)) ∧ (ns = [] → Q z H) ∧ ∀ n r, ns = n :: r → Q (.int (best n r)) H
theorem reads_ints {h : Heap} : ∀ {us : List Value} {ns : List Int}, Vals (ns.map V.int) us → ReadsAll h us (ns.map PyData.int) []
  | us, [], r => by cases r; exact .nil
  | us, n :: ns, r => by
    cases r with
    | cons r1 r2 =>
      obtain ⟨t, rfl⟩ := r1
      exact .cons (as := []) (bs := []) (.int _ _) (reads_ints r2)
theorem alike_ints (ns : List Int) : W.AlikeAll (ns.map PyData.int) := by
  refine ⟨fun x hx y hy => ?_, fun x hx => ?_⟩
  · obtain ⟨i, _, rfl⟩ := List.mem_map.mp hx
    obtain ⟨j, _, rfl⟩ := List.mem_map.mp hy
    rfl
  · obtain ⟨i, _, rfl⟩ := List.mem_map.mp hx
    exact fun z => by cases z
theorem cr_minDf (hc : X.calm = true) (hu : X.A.units + 10 < cLine) : CallRK X (.builtin "min") [Str.ofString "default"] (rBestDf fun n r => r.foldl min n) := by
  intro pins s σ H vs zs us ws Q I r1 r2 ⟨a, ns, z, e1, e2, hH, q0, q1⟩
  subst e1 e2
  obtain ⟨u, rfl, ru⟩ := vals1 r1
  cases ru
  obtain ⟨dz, rfl, rz⟩ := vals1 r2
  obtain ⟨z', its, n, rv, hl, e⟩ := I.lstM hH
  refine W.min_list_default (vs := its.toArray) (I.ok.hd hc) ⟨_, e, rfl, _, rfl⟩ (by simpa using reads_ints rv) (alike_ints ns) (by rw [W.depth_ints]; omega) (fun e0 h' tk hk => ?_) fun y ys i v h' tk bs e0 hv hr hk => ?_
  · exact ⟨z, H, I.kept (t' := tk) hk, rz, q0 (by simpa using e0)⟩
  · cases ns with
    | nil => cases e0
    | cons m ms =>
      cases e0
      rw [W.minD_ints] at hr
      cases hr with
      | int _ t => exact ⟨.int _, H, I.kept (t' := tk) hk, ⟨t, rfl⟩, q1 _ _ rfl⟩
theorem cr_maxDf (hc : X.calm = true) (hu : X.A.units + 10 < cLine) : CallRK X (.builtin "max") [Str.ofString "default"] (rBestDf fun n r => r.foldl max n) := by
  intro pins s σ H vs zs us ws Q I r1 r2 ⟨a, ns, z, e1, e2, hH, q0, q1⟩
  subst e1 e2
  obtain ⟨u, rfl, ru⟩ := vals1 r1
  cases ru
  obtain ⟨dz, rfl, rz⟩ := vals1 r2
  obtain ⟨z', its, n, rv, hl, e⟩ := I.lstM hH
  refine W.max_list_default (vs := its.toArray) (I.ok.hd hc) ⟨_, e, rfl, _, rfl⟩ (by simpa using reads_ints rv) (alike_ints ns) (by rw [W.depth_ints]; omega) (fun e0 h' tk hk => ?_) fun y ys i v h' tk bs e0 hv hr hk => ?_
  · exact ⟨z, H, I.kept (t' := tk) hk, rz, q0 (by simpa using e0)⟩
  · cases ns with
    | nil => cases e0
    | cons m ms =>
      cases e0
      rw [W.maxD_ints] at hr
      cases hr with
      | int _ t => exact ⟨.int _, H, I.kept (t' := tk) hk, ⟨t, rfl⟩, q1 _ _ rfl⟩
def bestD (best : Int → List Int → Int) (ns : List Int) (dz : D) : D := match ns with
  | [] => dz
  | n :: r => .int (best n r)
theorem pd_bestDf {x : Str} {id : String} {best : Int → List Int → Int} {ns : List Int} {dz : D} {kpos : Pos} (hcr : CallRK X (.builtin id) [Str.ofString "default"] (rBestDf best)) (hv : bootBuiltins x = some (.builtin id)) (l : LV M2 da (ns.map D.int)) (hm : X.mg x = none) (ha : PD X T ρ M a da M1) (hb : PD X T ρ M1 b dz M2)
    (hg : Gl X x := by rfl) (hn : x ≠ "__name__" := by decide) (hdb : (x == ("__debug__" : Str)) = false := by decide) (he0 : starEach [a] X.env = (false, eval a X.env) :: starEach [] X.env := by rfl)
    (he : backTo pos (starEach [a] X.env) = (false, eval a X.env) :: backTo pos (starEach [] X.env) := by rfl) (hpl : (backTo pos (starEach [a] X.env)).any (·.1) = false := by rfl)
    (hall : (backToKw pos (keywordEach [⟨some (Str.ofString "default"), b, kpos⟩] X.env)).all (·.1.isSome) = true := by rfl) (hnone : (backToKw pos (keywordEach [⟨some (Str.ofString "default"), b, kpos⟩] X.env)).any (·.1.isNone) = false := by rfl)
    (hks : (backToKw pos (keywordEach [⟨some (Str.ofString "default"), b, kpos⟩] X.env)).filterMap (·.1) = [Str.ofString "default"] := by rfl) :
    PD X T ρ M (.Call (.Name x p) [a] [⟨some (Str.ofString "default"), b, kpos⟩] pos) (bestD best ns dz) M2 :=
  (pe_callBK hcr hg hm hv (pdl_1 ha he0) (pk_cons hb pk_nil) hn hdb he hpl hall hnone hks).imp fun σ H Q ⟨G, hs, sl, k⟩ => ⟨G, hs, sl, fun vs G1 H1 st1 hs1 r1 => ⟨G1, hs1, sl.up st1.up, fun z G2 H2 st2 hs2 rz => by
    obtain ⟨v, rfl, rr⟩ := r1.one
    obtain ⟨q, xs, rfl, e, rx⟩ := l.get hs2 (rr.up st2.up)
    refine ⟨q, ns, z, rfl, rfl, by rw [e, rx.ints], fun e0 => ?_, fun n r e0 => ?_⟩
    · subst e0
      exact k z G2 H2 (st1.trans st2) hs2 rz
    · subst e0
      exact k _ G2 H2 (st1.trans st2) hs2 (.int _)⟩⟩
/-! ### a tuple by 1 -/
theorem tuple_mul1 (l : Addr) (items : Array Value) (n : Nat) (dd : Option Addr) (sl : Array (Option Value)) (u : Tok) :
    Meets (Builtin.«tuple.__mul__» ⟨[.ref l, .int 1 u], []⟩) (fun _ R s => s.heap.get? l = some { cls := .type "tuple", dict := dd, data := .seq items n, slots := sl } ∧ R (.ok (.ret (Value.ref l))) s) :=
  .of_wp fun prog w A R s h => by
    obtain ⟨hp, g, d, tk, os⟩ := s
    obtain ⟨hl, h⟩ := h
    have f1 := AutoSeq1.idx_int
    have c0 : (decide ((1 : Int) < -(2 ^ 63)) || decide ((1 : Int) ≥ 2 ^ 63)) = false := by decide
    have c1 : (items.isEmpty || (1 : Int) == 1) = true := by cases items.isEmpty <;> rfl
    wp_walk using wpAny_loadPart' hl
    repeat (first
      | (refine wpAny_ite_false (decide_eq_false (by rw [c0]; exact Bool.false_ne_true)) ?_; wp_walk using wpAny_loadPart' hl)
      | (refine wpAny_ite_true (decide_eq_true c1) ?_; wp_walk using wpAny_loadPart' hl))
    all_goals exact ⟨_, rfl, h⟩
theorem op_rep1 : OpR X (binaryOp .Mult) (fun x y H Q => ∃ l xs, x = .ref l ∧ y = .int 1 ∧ SqT X.K H l xs ∧ Q (.ref l) H) := by
  intro pins s σ H x y v u Q I rx ry h
  obtain ⟨l, xs, rfl, rfl, hT, q⟩ := h
  cases rx
  obtain ⟨t, rfl⟩ := ry
  obtain ⟨its, r, ⟨⟨cls, dd, data, sl⟩, ho, hc, n, hd⟩, hs⟩ := I.tuple hT
  simp only at hc hd
  subst hc hd
  refine wpAny_binaryOp_repeat_ref (T := "tuple") (U := "int") (by decide) ⟨_, ho, rfl⟩ (fun s' => typeIs_int s' 1 t) noFill_tuple_mul F.fills_int_mul F.slot_int_rmul repeat_tuple F.slot_int_index.lookup
    (call_meets F.slot_int_rmul (typeIs_int s 1 t) F.entry_int_rmul (F.args_int_rmul_2 _ _) (int_rmul_tuple 1 t l its.toArray n dd sl)
      ⟨ho, rfl, ⟨_, ho, rfl⟩, call_meets F.slot_tuple_mul ⟨_, ho, rfl⟩ F.entry_tuple_mul (F.args_tuple_mul_2 _ _) (tuple_mul1 l its.toArray n dd sl t) ⟨ho, ?_⟩⟩)
  exact ⟨.ref l, H, I, rfl, q⟩
/-- (d,) * k, 1 ≤ k -/
theorem pd_repT1 {k : Int} (h1 : 1 ≤ k) (h2 : k ≤ 1000) (ha : PD X T ρ M a (.tup [d]) M1) (hb : PD X T ρ M1 b (.int k) M2) : PD X T ρ M (.BinOp a .Mult b pos) (.tup (List.replicate k.toNat d)) M2 := by
  by_cases hk : k = 1
  · subst hk
    exact pd_op op_rep1 (fun G H v u Q hs r1 r2 kk => by
      obtain ⟨q, xs, rfl, e, r⟩ := r1.tupH hs
      cases r2
      exact ⟨q, xs, rfl, rfl, SqT.of e, kk _ G H (Step.refl _ _ _) hs r1⟩) ha hb
  · refine pd_cast (pd_repT (by simp) (by omega) h2 (by show 1 ≤ 1000; decide) ha hb) ?_
    congr 1
    generalize k.toNat = n
    induction n with
    | zero => rfl
    | succ n ih => rw [List.replicate_succ, List.flatten_cons, ih, List.replicate_succ]; rfl
end
section
variable {prog : Program} {w : World} {A : Around} {E : Value → Shared → Prop} {s : Shared} {l : Addr} {its : List Value} {ns : List Int} {Q : Value → Shared → Prop}
theorem sum_rawT (hh : A.handled = none) (hl : s.heap.IsTuple l its.toArray) (hi : IntsAre its ns)
    (h : ∀ h' tk t', (∀ b o, s.heap.get? b = some o → h'.get? b = some o) → Q (.int ns.sum t') { s with heap := h', toks := tk }) : wpAny (model prog w) A (call (.builtin "sum") [.ref l]) Q E s := by
  obtain ⟨xs, e⟩ := hi.allInts.items
  have hn : numsOf (intItems xs).toList = ns := by rw [← e]; exact hi.numsOf
  rw [nums_intItems] at hn
  rw [e] at hl
  refine PySem.call_sum_walkAnyS (W.iter_tupleW (A := A.in1) hh hl fun s₂ es Wk st hfp hwr hk => ?_)
  refine ⟨_, _, _, _, _, _, _, numAt xs, rfl, Wk, st, hfp, (fun _ _ => intItems_at), fun s' t' hm => ?_⟩
  obtain ⟨h', tk, rfl, hk'⟩ := W.moved_old es rfl hm
  have q := h h' tk t' hk'
  have e2 : preSum (numAt xs) (intItems xs).size = ns.sum := by
    rw [preSum_eq, List.take_of_length_le (by simp [intItems]), hn]
  rw [e2]
  exact q
end
section
variable {X : Cx} {T : List Addr} {ρ : List (Option D)} {M M1 M2 M3 : Mem} {a : Expr} {pos p : Pos}
theorem cr_sumT (hc : X.calm = true) : CallR X (.builtin "sum") (fun vs H Q => ∃ (a : Addr) (ns : List Int), vs = [V.ref a] ∧ SqT X.K H a (ns.map V.int) ∧ Q (.int ns.sum) H) := by
  intro pins s σ H vs us Q I r h
  obtain ⟨a, ns, rfl, hs, q⟩ := h
  obtain ⟨its, rv, hl, _⟩ := I.tuple hs
  rw [Vals.ref1 r]
  exact sum_rawT (I.ok.hd hc) hl rv.ints fun h' tk t' hk => ⟨.int _, H, I.kept hk, ⟨_, rfl⟩, q⟩
theorem pd_sumT {ns : List Int} (hm : X.mg "sum" = none) (ha : PD X T ρ M a (.tup (ns.map D.int)) M1) (hc : X.calm = true := by rfl) (hg : Gl X "sum" := by rfl) (he : starEach [a] X.env = (false, eval a X.env) :: starEach [] X.env := by rfl) :
    PD X T ρ M (.Call (.Name "sum" p) [a] [] pos) (.int ns.sum) M1 :=
  pd_callB (cr_sumT hc) (fun G H vs Q hs r k => by
    obtain ⟨v, rfl, rr⟩ := r.one
    obtain ⟨p, xs, rfl, e, r⟩ := rr.tupH hs
    exact ⟨p, ns, rfl, SqT.of (r.ints ▸ e), k _ G H (Step.refl _ _ _) hs (.int _)⟩) hm (by decide +kernel) (pdl_1 ha he) hg (by decide) (by decide) he
end
end LW

set_option Elab.async false
set_option linter.all false
set_option maxRecDepth 100000
set_option maxHeartbeats 4000000
/-! LO: defs from the head, the script, the dice. -/
namespace LW
open PySem PySem.Spec PyProof.Rows L2
theorem funC_of {K : PySem.W.Frag} {x qual : Str} {st : Stmt} {dvs : List V} {kws : List (Str × V)} {p : Str × Option Str} {fd : FuncData} (F : FunD K x qual (defArgs st) (defBody st) (defScope st) dvs kws (He.fAd K p) fd) : FunC K x qual st (He.fAd K p) fd (.ref (He.codeOf K p)) := by
  obtain ⟨oc, od, dV, kV, doc, pm, an, cdv, ct, osl, e1, e2, e3, e4, e5⟩ := F.ex
  obtain ⟨c, hc⟩ := He.codeIn_ref e3
  subst hc
  have q := He.codeOf_eq (p := p) e2 (by rw [e1])
  refine ⟨⟨oc, od, dV, kV, doc, pm, an, ct, osl, ?_, e2, ?_⟩, F.kp⟩
  · rw [q]; exact e1
  · rw [q]; exact e3
theorem gk_of {P : Program} {w : World} {K : PySem.W.Frag} {mg : Str → Option Value} {base : Heap} {N : List Str} {qual : Str} {scope : Scope} {f : Addr} {p : Str × Option Str} {A : Around} {outer : List Env} {s : Shared} {H : Hp} {E : XK} {T : List Addr} {k : Nat}
    (tb : LamX.TabB base mg (He.cT K p).1 (He.cT K p).2) (hT : (He.cT K p).2 ∈ T) (hr : Room (k + 1) (A.deeper (envOfC qual scope s.heap.objs.size f (.ref (He.codeOf K p))))) (hN : N.Nodup) :
    GK (cxOf CX0 P w K mg base N qual scope f (.ref (He.codeOf K p)) A outer s H E).nox T k :=
  ⟨⟨_, _, ⟨tb.code, tb.bm, tb.gP⟩, rfl, hT⟩, hr, rfl, hN⟩
/-! ### the script -/
section
variable {X : Cx} {T : List Addr} {ρ : List (Option D)} {M M1 : Mem} {d : D} {e : Expr} {pos p p2 : Pos}
/-- tE, a foreign list of ints at a besides -/
def tES (K : PySem.W.Frag) (w : World) (T : List Addr) (ρ : List (Option D)) (M : Mem) (a : Addr) (ns : List Int) (R : D → Mem → Prop) : TE := fun σ H Q => SqL K H a (ns.map V.int) ∧ tER w T ρ M R σ H Q
/-- script[:1], the script and the number by their slots -/
theorem pe_script {a : Addr} {ns : List Int} {j : Int} (is ij : Nat) {xs xj : Str} {p3 : Pos} (hs : ρ[is]? = some (some (.ref a)) := by rfl) (hj : ρ[ij]? = some (some (.int j)) := by rfl) (h1 : X.N[is]? = some xs := by rfl) (h2 : X.N[ij]? = some xj := by rfl)
    (v1 : Vis X.env.scope xs := by first | exact Or.inl rfl | exact Or.inr (Or.inl rfl)) (v2 : Vis X.env.scope xj := by first | exact Or.inl rfl | exact Or.inr (Or.inl rfl)) (d1 : (xs == ("__debug__" : Str)) = false := by decide) (d2 : (xs == ("__classdict__" : Str)) = false := by decide) (d3 : (xj == ("__debug__" : Str)) = false := by decide) (d4 : (xj == ("__classdict__" : Str)) = false := by decide) :
    PE X (.Subscript (.Name xs p) (.Slice none (some (.Name xj p2)) none p3) pos) (tES X.K X.w T ρ M a ns (fun d m => d = .lst ((cutD ns none (some j)).map D.int) ∧ m = M)) :=
  (pe_slice sl_list (pv is h1 v1 d1 d2) po_none (po_some (pv ij h2 v2 d3 d4))).imp fun σ H Q ⟨hS, G, hs', sl, k⟩ => by
    obtain ⟨v, e1, r1⟩ := sl.at_ is _ hs
    obtain ⟨u, e2, r2⟩ := sl.at_ ij _ hj
    cases r1
    cases r2
    refine ⟨_, e1, _, e2, _, rfl, ?_⟩
    refine ⟨a, _, rfl, hS, fun q hq => ?_⟩
    refine k _ _ _ _ _ ⟨rfl, rfl⟩ (Step.newI hs' hq) (hs'.new hq fun _ z => by cases z) (.lst upd_same ?_)
    have e : cutV (ns.map V.int) none (some j) = (cutD ns none (some j)).map V.int := by
      unfold cutV cutD
      rw [List.length_map, List.map_take, List.map_drop]
    rw [e]
    exact DtL.ofInts _
/-- a block that begins with y = e, e read beside the script -/
theorem pbS_set {a : Addr} {ns : List Int} {R : D → Mem → Prop} {rest : List Stmt} {Nx : List (Option D) → Mem → Prop} {Rt : D → Mem → Prop} (i : Nat) {x : Str} {px : Pos} (he : PE X e (tES X.K X.w T ρ M a ns R)) (hN : X.N.Nodup) (k : ∀ d m, R d m → PB X T (ρ.set i (some d)) m rest Nx Rt)
    (hi : X.N[i]? = some x := by rfl) (hx : Loc X.env.scope x := by first | exact Or.inl rfl | exact Or.inr rfl) (hs : swapsWith e (some (.Name x px)) pos.line X.env = pure false := by rfl) (hf : X.fn x = true ∨ X.env.scope.names.lookup x = some .local := by first | exact .inl rfl | exact .inr rfl | assumption) :
    PSs X (.Assign [.Name x px] e pos :: rest) (fun Dd σ H => SqL X.K H a (ns.map V.int) ∧ tB X.w T ρ M Nx Rt Dd σ H) :=
  PSs.imp (pss_cons (ps_set hN hi hx he hs hf) (PSs.ex fun (x : D × Mem) => PSs.exB (P := R x.1 x.2) (k x.1 x.2))) fun Dd σ H ⟨hS, G, hs', sl, k1, k2⟩ => by
    refine ⟨hS, G, hs', sl, fun v G' H' d m r st hs2 rd => ⟨(d, m), r, G', hs2, (sl.up st.up).set i rd, fun σ2 G2 H2 ρ2 M2 n2 st2 hs2' sl2 => k1 σ2 G2 H2 ρ2 M2 n2 (st.trans st2) hs2' sl2, fun v2 G2 H2 d2 M2 r2 st2 hs2' rd2 => k2 v2 G2 H2 d2 M2 r2 (st.trans st2) hs2' rd2⟩⟩
/-- the promise of a def that is given the script and a number -/
def spS (K : PySem.W.Frag) (w : World) (T : List Addr) (ok : List Int → Prop) (j : Int) (post : List Int → D → Mem → Prop) : Sp := fun vs H Q _ => ∃ (a : Addr) (ns : List Int) (G : Hp), vs = [.ref a, .int j] ∧ ok ns ∧ SqL K H a (ns.map V.int) ∧ HS w T G H [] ∧
  ∀ v G' H' d M', post ns d M' → Step G H [] G' H' M' → HS w T G' H' M' → Dt w G' v d → Q v H'
theorem fnS_ok {P : Program} {w : World} {K : PySem.W.Frag} {mg : Str → Option Value} {base : Heap} {T : List Addr} {nm qual : Str} {st : Stmt} {f : Addr} {fd : FuncData} {cdv : Value} {N ps : List Str} {k : Nat} {ok : List Int → Prop} {j : Int} {post : List Int → D → Mem → Prop} (F : FunC K nm qual st f fd cdv) (S : FnScope N ps (defScope st))
    (hb : ∀ (a : Addr) (ns : List Int) (A : Around) (outer : List Env) (s : Shared) (H : Hp) (E : XK), ok ns → Room k (A.deeper (envOfC qual (defScope st) s.heap.objs.size f cdv)) →
      PSs (cxOf CX0 P w K mg base N qual (defScope st) f cdv A outer s H E).nox (defBody st) (fun Dd σ H => SqL K H a (ns.map V.int) ∧ tB w T (slots N [.ref a, .int j]) [] (fun _ m => post ns .non m) (post ns) Dd σ H))
    (hl : ps.length = 2 := by rfl) : FnOk P w K mg base CX0 (k + 1) f fd ps (spS K w T ok j post) := by
  obtain ⟨oc, od, dV, kV, doc, pm, an, ct, osl, rfl, lk, hcd⟩ := F.ex
  refine fn_of lk hcd S (fun vs H Q E h => ?_) fun A outer s H vs Q E hr hsp => ?_
  · obtain ⟨a, ns, G, rfl, _⟩ := h
    rw [hl]
    rfl
  · obtain ⟨a, ns, G, rfl, ho, hS, hs, k⟩ := hsp
    refine ⟨_, (hb a ns A outer s H E ho hr).nox, hS, G, hs, SL.start (.cons (.ref a) (.cons (.int j) .nil)), fun σ' G' H' ρ' M' n st hs' sl' => ?_, fun v G' H' d M' n st hs' rd => k v G' H' d M' n st hs' rd⟩
    exact k .non G' H' .non M' n st hs' .non
/-- the law's own promise -/
def spLaw (K : PySem.W.Frag) (w : World) (T : List Addr) (ok : List Int → Prop) : Sp := fun vs H Q _ => ∃ (a : Addr) (ns : List Int), vs = [.ref a] ∧ ok ns ∧ SqL K H a (ns.map V.int) ∧ HS w T (fun _ => none) H [] ∧ ∀ H', Q (.bl true) H'
/-- for tg in f(script, j): .. -/
theorem psS_for {a : Addr} {ns : List Int} {k : Nat} {f : Addr} {fd : FuncData} {ps : List Str} {ok : List Int → Prop} {j : Int} {post : List Int → D → Mem → Prop} {nm : Str} {es : Expr} {tg : Expr} {body rest : List Stmt} {g : TG} {is : List Nat} {unp : D → Option (List D)} {ρ : List (Option D)} {Nx : List (Option D) → Mem → Prop} {Rt : D → Mem → Prop} {i0 : Nat} {xs : Str} {pa pj cpos fpos : Pos} {jj : Nat}
    (F : FnOk X.prog X.w X.K X.mg X.base CX0 k f fd ps (spS X.K X.w T ok j post)) (hr : Room k X.A) (hm : X.mg nm = some (.ref f)) (hk : PySem.W.keepIn X.K (.ref f) = true) (hb : Binds X.K fd ps []) (hok : ok ns)
    (hs : ρ[i0]? = some (some (.ref a))) (h1 : X.N[i0]? = some xs) (v1 : Vis X.env.scope xs) (d1 : (xs == ("__debug__" : Str)) = false) (d2 : (xs == ("__classdict__" : Str)) = false)
    (hlist : ∀ d m, post ns d m → ∃ ds, d = .lst ds) (hg : PG X tg g) (ht : Tgt X.w g is unp) (W : List D → Nat → List (Option D) → Mem → Prop) (h0 : ∀ ds m, post ns (.lst ds) m → W ds 0 ρ m)
    (hu : ∀ ds m, post ns (.lst ds) m → ∀ (i : Nat) (d : D), ds[i]? = some d → ∃ us, unp d = some us)
    (hbd : ∀ ds m, post ns (.lst ds) m → ∀ (i : Nat) (d : D) (us : List D) ρ' M', ds[i]? = some d → unp d = some us → W ds i ρ' M' → PB X T (setsD ρ' is us) M' body (W ds (i + 1)) Rt)
    (hd : ∀ ds m, post ns (.lst ds) m → ∀ ρ' M', W ds ds.length ρ' M' → PB X T ρ' M' rest Nx Rt)
    (hgl : Gl X nm := by rfl) (hdb : (nm == ("__debug__" : Str)) = false := by decide) (he : starEach [.Name xs pa, .Constant (.int j) jj pj] X.env = (false, eval (.Name xs pa) X.env) :: starEach [.Constant (.int j) jj pj] X.env := by rfl) (he2 : starEach [.Constant (.int j) jj pj] X.env = (false, eval (.Constant (.int j) jj pj) X.env) :: starEach [] X.env := by rfl)
    (hpl : (backTo cpos (starEach [.Constant (.int j) jj pj] X.env)).any (·.1) = false := by rfl) (hp : PassesOwn (model X.prog X.w) X.A X.env X.xe := by exact PassesOwn.never) (hc : X.calm = true := by rfl) (hfs : ∀ x, foldedSetIterable (.Call (.Name nm p) [.Name xs pa, .Constant (.int j) jj pj] [] cpos) X.env x = pure x := by intro _; rfl) :
    PSs X (.For tg (.Call (.Name nm p) [.Name xs pa, .Constant (.int j) jj pj] [] cpos) body [] fpos :: rest) (fun Dd σ H => SqL X.K H a (ns.map V.int) ∧ tB X.w T ρ [] Nx Rt Dd σ H) := by
  have hcall := pe_call (p := p) (pos := cpos) F hr hgl hm hk hb .nil pass0 (pa_cons (pv i0 (pos := pa) h1 v1 d1 d2) (pa_cons (pe_int (i := j)) pa_nil he2) he) hdb he hpl
  have hbody := PSs.ex fun (x : List D × Mem × Nat × D × List D × List (Option D) × Mem) => PSs.exB (P := post ns (.lst x.1) x.2.1 ∧ x.1[x.2.2.1]? = some x.2.2.2.1 ∧ unp x.2.2.2.1 = some x.2.2.2.2.1 ∧ W x.1 x.2.2.1 x.2.2.2.2.2.1 x.2.2.2.2.2.2) fun q =>
    hbd x.1 x.2.1 q.1 x.2.2.1 x.2.2.2.1 x.2.2.2.2.1 x.2.2.2.2.2.1 x.2.2.2.2.2.2 q.2.1 q.2.2.1 q.2.2.2
  have hrest := PSs.ex fun (x : List D × Mem × List (Option D) × Mem) => PSs.exB (P := post ns (.lst x.1) x.2.1 ∧ W x.1 x.1.length x.2.2.1 x.2.2.2) fun q => hd x.1 x.2.1 q.1 x.2.2.1 x.2.2.2 q.2
  refine PSs.imp (pss_cons (ps_for hp hc (pi_list hcall) hg hbody hfs) hrest) fun Dd σ H ⟨hS, G, hs', sl, k1, k2⟩ => ?_
  obtain ⟨v, e1, r1⟩ := sl.at_ i0 _ hs
  cases r1
  refine ⟨_, e1, a, ns, G, rfl, hok, hS, hs', fun v G1 H1 d m hpo st1 hs1 rd => ?_⟩
  obtain ⟨ds, rfl⟩ := hlist d m hpo
  cases rd with
  | lst eg rx =>
    rename_i q xs'
    have it : ItD X.w T (fun _ => True) ds (Itl X.K q) G1 H1 m := ⟨fun i G2 H2 M2 hi st2 hs2 hok => by
        have hl : i < xs'.length := by rw [rx.length]; exact hi
        exact ⟨xs', xs'[i], SqL.of (hs2.sub _ _ (st2.up _ _ eg)), List.getElem?_eq_getElem hl⟩, fun i G2 H2 M2 x H' d st2 hs2 hok hd hy => by
        obtain ⟨rfl, hx⟩ := hy
        obtain ⟨u, hu, ru⟩ := rx.get hd
        have := hx xs' (SqL.of (hs2.sub _ _ (st2.up _ _ eg)))
        rw [hu] at this
        cases this
        exact ⟨G2, Step.refl _ _ _, hs2, ru.up st2.up⟩, fun G2 H2 M2 st2 hs2 hok => ⟨xs', SqL.of (hs2.sub _ _ (st2.up _ _ eg)), by rw [rx.length]; exact Nat.le_refl _⟩⟩
    refine ⟨q, rfl, ⟨xs', SqL.of (hs1.sub _ _ eg)⟩, ?_⟩
    refine ⟨fun i mm σ' H' => mm = ds.length - i ∧ i ≤ ds.length ∧ ∃ G' ρ' M', W ds i ρ' M' ∧ Step G1 H1 m G' H' M' ∧ HS X.w T G' H' M' ∧ SL X.w G' σ' ρ', ⟨_, rfl, Nat.zero_le _, G1, ρ, m, h0 ds m hpo, Step.refl _ _ _, hs1, sl.up st1.up⟩, ?_⟩
    rintro i mm σ' H' ⟨rfl, hle, G', ρ', M', hW, st', hs2, sl'⟩
    by_cases hlt : i < ds.length
    · refine .inr ⟨it.go i G' H' M' hlt st' hs2 trivial, fun σ2 H2 => ∃ m', m' < ds.length - i ∧ (m' = ds.length - (i + 1) ∧ i + 1 ≤ ds.length ∧ ∃ G2 ρ2 M2, W ds (i + 1) ρ2 M2 ∧ Step G1 H1 m G2 H2 M2 ∧ HS X.w T G2 H2 M2 ∧ SL X.w G2 σ2 ρ2), fun σ2 H2 q => q, fun x H2 hy => ?_⟩
      have hd' : ds[i]? = some ds[i] := List.getElem?_eq_getElem hlt
      obtain ⟨us, hus⟩ := hu ds m hpo i _ hd'
      obtain ⟨G2, st2, hs3, r⟩ := it.yld i G' H' M' x H2 _ st' hs2 trivial hd' hy
      refine ht.ok T x σ' G2 H2 M' _ _ us hs3 r hus fun σ3 hsl _ => ⟨(ds, m, i, ds[i], us, ρ', M'), ⟨hpo, hd', hus, hW⟩, G2, hs3, hsl ρ' (sl'.up st2.up), fun σ4 G4 H4 ρ4 M4 hn st4 hs4 sl4 => ?_, fun v G4 H4 d4 M4 hr st4 hs4 rd => ?_⟩
      · exact ⟨_, by omega, rfl, hlt, G4, ρ4, M4, hn, (st'.trans st2).trans st4, hs4, sl4⟩
      · exact k2 v G4 H4 d4 M4 hr (((st1.trans st').trans st2).trans st4) hs4 rd
    · have e : i = ds.length := Nat.le_antisymm hle (Nat.le_of_not_lt hlt)
      subst e
      refine .inl ⟨it.stop G' H' M' st' hs2 trivial, (ds, m, ρ', M'), ⟨hpo, hW⟩, G', hs2, sl', fun σ4 G4 H4 ρ4 M4 hn st4 hs4 sl4 => k1 σ4 G4 H4 ρ4 M4 hn ((st1.trans st').trans st4) hs4 sl4, fun v G4 H4 d4 M4 hr st4 hs4 rd => k2 v G4 H4 d4 M4 hr ((st1.trans st').trans st4) hs4 rd⟩
end
/-! ### the dice -/
abbrev Dice := Int × Int × Int
def diceD (c : Dice) : List D := [.int c.1, .int c.2.1, .int c.2.2]
def big (c : Dice) : Bool := decide (c.2.2 = 2) || (decide (c.2.2 = 1) && decide (0 < c.1))
def mixed (c : Dice) : Int := (c.1 * 48271 + c.2.1 * 69621 + 11) % 2147483647
def rollV (c : Dice) (m : Int) : Int := if big c = true then c.1 % m else (mixed c / 7 + mixed c) % m
def rollC (c : Dice) (m : Int) : Dice := if big c = true then (c.1 / m, c.2.1, c.2.2) else (mixed c, c.2.1 + 1, 0)
theorem rollV_range (c : Dice) {m : Int} (h : 0 < m) : 0 ≤ rollV c m ∧ rollV c m < m := by
  unfold rollV
  split
  · exact ⟨Int.emod_nonneg _ (by omega), Int.emod_lt_of_pos _ h⟩
  · exact ⟨Int.emod_nonneg _ (by omega), Int.emod_lt_of_pos _ h⟩
/-- a roll's argument -/
structure RollA where
  p : Addr
  c : Dice
  m : Int
  h : 0 < m ∧ m < 1073741824
def diceOf (z : Int) : Dice := if decide (0 - 10 < z) && decide (z < 10) then ((if z < 0 then -z else z), 0, 2) else (z, 1 + z % 1009, if decide (10 ^ 18 ≤ z) then 1 else 0)
/-- what _law_rounds gives: one dice -/
def roundsPost (ns : List Int) (d : D) (m : Mem) : Prop := ∃ (p : Addr) (z : Int), d = .lst [.ref p] ∧ m = [some (p, .lst (diceD (diceOf z)))]
end LW

set_option Elab.async false
set_option linter.all false
set_option maxRecDepth 100000
set_option maxHeartbeats 4000000
/-! LP: defs that may be called. -/
namespace LW
open PySem PySem.Spec PyProof.Rows L2
theorem un_of {k n : Nat} {A : Around} (h : Room k A) (hn : n ≤ 200) : A.units + n < cLine := by have := h.un; omega
structure Cal (P : Program) (w : World) (K : PySem.W.Frag) (mg : Str → Option Value) (base : Heap) (k : Nat) (f : Addr) (ps : List Str) (sp : Sp) : Prop where
  ex : ∃ fd, FnOk P w K mg base CX0 k f fd ps sp ∧ Binds K fd ps []
  kp : PySem.W.keepIn K (.ref f) = true
/-- by its own value: nothing that is owned is touched -/
abbrev spP (w : World) (T : List Addr) {α : Type} (args : α → List D) (val : α → D) : Sp := spC w T args (fun _ => []) (fun x d m => d = val x ∧ m = [])
section
variable {X : Cx} {T : List Addr} {ρ : List (Option D)} {M M1 M2 M3 : Mem} {d da db dc : D} {a b c e o : Expr} {es : List Expr} {pos p apos : Pos} {ds dvs : List D} {R : D → Mem → Prop}
  {α : Type} {args : α → List D} {Mf : α → Mem} {post : α → D → Mem → Prop} {k : Nat} {f C : Addr} {ps : List Str} {nm : Str} {val : α → D}
theorem pdr_cC (x : α) {Mo : Mem → Mem} (Cl : Cal X.prog X.w X.K X.mg X.base k f ps (spC X.w T args Mf post)) (hr : Room k X.A) (hm : X.mg nm = some (.ref f))
    (ha : PDL X T ρ M (e :: es) ds M1) (hx : args x = ds) (fr : Fram M1 (Mf x) Mo) (hg : Gl X nm := by rfl) (hdb : (nm == ("__debug__" : Str)) = false := by decide) (he : starEach (e :: es) X.env = (false, eval e X.env) :: starEach es X.env := by rfl) (hpl : (backTo pos (starEach es X.env)).any (·.1) = false := by rfl) :
    PDR X T ρ M (.Call (.Name nm p) (e :: es) [] pos) (fun d m => ∃ m', m = Mo m' ∧ post x d m') := by
  obtain ⟨fd, F, hb⟩ := Cl.ex
  exact pdr_call x F hr hm Cl.kp hb ha hx fr hg hdb he hpl
theorem pd_cC (x : α) (Cl : Cal X.prog X.w X.K X.mg X.base k f ps (spP X.w T args val)) (hr : Room k X.A) (hm : X.mg nm = some (.ref f))
    (ha : PDL X T ρ M (e :: es) ds M1) (hx : args x = ds) (hg : Gl X nm := by rfl) (hdb : (nm == ("__debug__" : Str)) = false := by decide) (he : starEach (e :: es) X.env = (false, eval e X.env) :: starEach es X.env := by rfl) (hpl : (backTo pos (starEach es X.env)).any (·.1) = false := by rfl) :
    PD X T ρ M (.Call (.Name nm p) (e :: es) [] pos) (val x) M1 :=
  pd_ofR (pdr_cC x (Mo := fun m => M1 ++ m) Cl hr hm ha hx Fram.none hg hdb he hpl) fun d m ⟨m', e1, e2, e3⟩ => ⟨e2, by rw [e1, e3, List.append_nil]⟩
/-- o.m(..), o a datum or ours; nothing owned but what is named is touched -/
theorem pdr_mC (x : α) {Mo : Mem → Mem} {fs : List (Str × D)} {pl : Sem Bool} (Cl : Cal X.prog X.w X.K X.mg X.base k f ps (spC X.w T args Mf post)) (hr : Room k X.A) (c : Cls X.K C) (hm : Meth X.K C nm f)
    (ho : PD X T ρ M o da M1) (ov : OV M1 da C fs) (ha : PDL X T ρ M1 (e :: es) ds M2) (hx : args x = da :: ds) (fr : Fram M2 (Mf x) Mo) (hl : fs.lookup nm = none := by rfl)
    (hst : starEach (e :: es) X.env = (false, eval e X.env) :: starEach es X.env := by rfl) (hpl : (backTo pos (starEach es X.env)).any (·.1) = false := by rfl)
    (ht : eval (.Call (.Attribute o nm apos) (e :: es) [] pos) X.env = (do
      let ov ← eval o X.env
      standAt apos.atName
      let (f, first) ← holding [ov] (getMethod ov nm pl)
      callWith pos f first (backTo pos (starEach (e :: es) X.env)) (backToKw pos (keywordEach [] X.env))) := by rfl) :
    PDR X T ρ M (.Call (.Attribute o nm apos) (e :: es) [] pos) (fun d m => ∃ m', m = Mo m' ∧ post x d m') := by
  obtain ⟨fd, F, hb⟩ := Cl.ex
  exact pdr_meth x F hr c hm hb ho ov ha hx fr hl hst hpl ht
theorem pdr_mC0 (x : α) {Mo : Mem → Mem} {fs : List (Str × D)} {pl : Sem Bool} (Cl : Cal X.prog X.w X.K X.mg X.base k f ps (spC X.w T args Mf post)) (hr : Room k X.A) (c : Cls X.K C) (hm : Meth X.K C nm f)
    (ho : PD X T ρ M o da M1) (ov : OV M1 da C fs) (hx : args x = [da]) (fr : Fram M1 (Mf x) Mo) (hl : fs.lookup nm = none := by rfl)
    (ht : eval (.Call (.Attribute o nm apos) [] [] pos) X.env = (do
      let ov ← eval o X.env
      standAt apos.atName
      let (f, first) ← holding [ov] (getMethod ov nm pl)
      callWith pos f first (backTo pos (starEach [] X.env)) (backToKw pos (keywordEach [] X.env))) := by rfl) :
    PDR X T ρ M (.Call (.Attribute o nm apos) [] [] pos) (fun d m => ∃ m', m = Mo m' ∧ post x d m') := by
  obtain ⟨fd, F, hb⟩ := Cl.ex
  exact pdr_meth0 x F hr c hm hb ho ov hx fr hl ht
/-- the same, by a value, what is owned stays -/
theorem pd_mC (x : α) {fs : List (Str × D)} {pl : Sem Bool} (Cl : Cal X.prog X.w X.K X.mg X.base k f ps (spP X.w T args val)) (hr : Room k X.A) (c : Cls X.K C) (hm : Meth X.K C nm f)
    (ho : PD X T ρ M o da M1) (ov : OV M1 da C fs) (ha : PDL X T ρ M1 (e :: es) ds M2) (hx : args x = da :: ds) (hl : fs.lookup nm = none := by rfl)
    (hst : starEach (e :: es) X.env = (false, eval e X.env) :: starEach es X.env := by rfl) (hpl : (backTo pos (starEach es X.env)).any (·.1) = false := by rfl)
    (ht : eval (.Call (.Attribute o nm apos) (e :: es) [] pos) X.env = (do
      let ov ← eval o X.env
      standAt apos.atName
      let (f, first) ← holding [ov] (getMethod ov nm pl)
      callWith pos f first (backTo pos (starEach (e :: es) X.env)) (backToKw pos (keywordEach [] X.env))) := by rfl) :
    PD X T ρ M (.Call (.Attribute o nm apos) (e :: es) [] pos) (val x) M2 :=
  pd_ofR (pdr_mC x (Mo := fun m => M2 ++ m) Cl hr c hm ho ov ha hx Fram.none hl hst hpl ht) fun d m ⟨m', e1, e2, e3⟩ => ⟨e2, by rw [e1, e3, List.append_nil]⟩
theorem pdr_makeC {g : Addr} (x : Addr → α) (Cl : Cal X.prog X.w X.K X.mg X.base k g ps (spC X.w T args Mf post)) (hM : Mk X.K C g) (hr : Room (k + 1) X.A) (hm : X.mg nm = some (.ref C))
    (ha : PDL X T ρ M (e :: es) ds M1) (hx : ∀ q, args (x q) = .ref q :: ds) (hf : ∀ q, Mf (x q) = [some (q, .obj C [])]) (hp : ∀ q d m, post (x q) d m → d = .non)
    (hg : Gl X nm := by rfl) (hdb : (nm == ("__debug__" : Str)) = false := by decide) (he : starEach (e :: es) X.env = (false, eval e X.env) :: starEach es X.env := by rfl) (hpl : (backTo pos (starEach es X.env)).any (·.1) = false := by rfl) :
    PDR X T ρ M (.Call (.Name nm p) (e :: es) [] pos) (fun d m => ∃ q m', d = .ref q ∧ m = M1 ++ m' ∧ post (x q) .non m') := by
  obtain ⟨fd, F, hb⟩ := Cl.ex
  exact pdr_makeD (Mr := fun _ => []) x F hM hr hm hb .nil Dfl.nil ha (fun q => by rw [hx, List.append_nil]) hf hp hg hdb he hpl
end
end LW

set_option Elab.async false
set_option linter.all false
set_option maxRecDepth 100000
set_option maxHeartbeats 4000000
/-! LQ: types of data: their ==, their order, dicts whose keys they are. -/
namespace LW
open PySem PySem.Spec PyProof.Rows L2
section
variable {α β : Type} [DecidableEq α] [DecidableEq β]
/-- α's values as data: f; as plain data: g -/
structure EncP (n : Nat) (f : α → D) (g : α → PyData) : Prop where
  py : ∀ a, (f a).py = some (g a)
  eqv : ∀ a b, PyData.eqv (g a) (g b) = decide (a = b)
  alike : ∀ a b, PySem.W.alike (g a) (g b) = true
  lay : ∀ a, (g a).canLay0 = true
  dep : ∀ a, (g a).depth ≤ n
/-- as keys -/
structure EncK (n : Nat) (f : α → D) (k : α → NestedKey) : Prop where
  nk : ∀ a, (f a).nk = some (k a)
  inj : ∀ a b, k a = k b → a = b
  dep : ∀ a, (k a).depth ≤ n
theorem encP_int : EncP 0 D.int PyData.int := ⟨fun _ => rfl, fun a b => by
  show (a == b) = _
  by_cases h : a = b
  · subst h; simp
  · simp [h], fun a b => by simp [PySem.W.alike], fun _ => rfl, fun _ => Nat.le_refl _⟩
theorem encP_bl : EncP 0 D.bl PyData.bool := ⟨fun _ => rfl, fun a b => by cases a <;> cases b <;> rfl, fun a b => by simp [PySem.W.alike], fun _ => rfl, fun _ => Nat.le_refl _⟩
theorem encK_int : EncK 0 D.int NestedKey.num := ⟨fun _ => rfl, fun a b h => by injection h, fun _ => by simp [NestedKey.depth]⟩
theorem encK_bl : EncK 0 D.bl (fun b => NestedKey.num (if b = true then 1 else 0)) := ⟨fun _ => rfl, fun a b h => by
  injection h with h
  cases a <;> cases b <;> first | rfl | exact absurd h (by decide), fun _ => by simp [NestedKey.depth]⟩
variable {n m : Nat} {f : α → D} {g : α → PyData} {k : α → NestedKey} {f' : β → D} {g' : β → PyData} {k' : β → NestedKey}
theorem EncP.pys (E : EncP n f g) : ∀ xs : List α, D.pys (xs.map f) = some (xs.map g)
  | [] => rfl
  | a :: r => by
    show (match (f a).py, D.pys (r.map f) with | some k, some ks => some (k :: ks) | _, _ => none) = _
    rw [E.py, E.pys r]
    rfl
theorem EncP.eqvs (E : EncP n f g) : ∀ xs ys : List α, PyData.eqvAll (xs.map g) (ys.map g) = decide (xs = ys)
  | [], [] => by simp [PyData.eqvAll]
  | [], _ :: _ => by simp [PyData.eqvAll]
  | _ :: _, [] => by simp [PyData.eqvAll]
  | a :: r, b :: t => by
    rw [List.map_cons, List.map_cons, PySem.W.eqv_all_cons, E.eqv, E.eqvs r t]
    by_cases h1 : a = b <;> by_cases h2 : r = t <;> simp [h1, h2]
theorem EncP.alikes (E : EncP n f g) : ∀ xs ys : List α, PySem.W.alikeAll (xs.map g) (ys.map g) = true
  | [], _ => by simp [PySem.W.alikeAll]
  | _ :: _, [] => by simp [PySem.W.alikeAll]
  | a :: r, b :: t => by
    rw [List.map_cons, List.map_cons, PySem.W.alikeAll, E.alike, E.alikes r t]
    rfl
theorem EncP.lays (E : EncP n f g) : ∀ xs : List α, PyData.canLayAll0 (xs.map g) = true
  | [] => rfl
  | a :: r => by
    show ((g a).canLay0 && PyData.canLayAll0 (r.map g)) = true
    rw [E.lay, E.lays r]
    rfl
theorem EncP.deps (E : EncP n f g) : ∀ xs : List α, PyData.depthAll (xs.map g) ≤ n
  | [] => Nat.zero_le _
  | a :: r => by
    show max (g a).depth (PyData.depthAll (r.map g)) ≤ n
    exact Nat.max_le.mpr ⟨E.dep a, E.deps r⟩
theorem EncP.tup (E : EncP n f g) : EncP (n + 1) (fun xs : List α => D.tup (xs.map f)) (fun xs => PyData.tuple (xs.map g)) where
  py xs := by
    show (D.pys (xs.map f)).map _ = _
    rw [E.pys]
    rfl
  eqv xs ys := E.eqvs xs ys
  alike xs ys := by
    show PySem.W.alike (.tuple _) (.tuple _) = true
    rw [PySem.W.alike]
    exact E.alikes xs ys
  lay xs := E.lays xs
  dep xs := Nat.succ_le_succ (E.deps xs)
theorem EncP.lst (E : EncP n f g) : EncP (n + 1) (fun xs : List α => D.lst (xs.map f)) (fun xs => PyData.list (xs.map g)) where
  py xs := by
    show (D.pys (xs.map f)).map _ = _
    rw [E.pys]
    rfl
  eqv xs ys := E.eqvs xs ys
  alike xs ys := by
    show PySem.W.alike (.list _) (.list _) = true
    rw [PySem.W.alike]
    exact E.alikes xs ys
  lay xs := E.lays xs
  dep xs := Nat.succ_le_succ (E.deps xs)
theorem EncP.pair (E : EncP n f g) (E' : EncP n f' g') : EncP (n + 1) (fun p : α × β => D.tup [f p.1, f' p.2]) (fun p => PyData.tuple [g p.1, g' p.2]) where
  py p := by
    show (D.pys [f p.1, f' p.2]).map _ = _
    have e : D.pys [f p.1, f' p.2] = some [g p.1, g' p.2] := by
      show (match (f p.1).py, (match (f' p.2).py, D.pys [] with | some k, some ks => some (k :: ks) | _, _ => none) with | some k, some ks => some (k :: ks) | _, _ => none) = _
      rw [E.py, E'.py]
      rfl
    rw [e]
    rfl
  eqv p q := by
    show PyData.eqvAll [g p.1, g' p.2] [g q.1, g' q.2] = _
    rw [PySem.W.eqv_all_cons, PySem.W.eqv_all_cons, E.eqv, E'.eqv]
    obtain ⟨a, b⟩ := p
    obtain ⟨c, d⟩ := q
    by_cases h1 : a = c <;> by_cases h2 : b = d <;> simp [h1, h2, PyData.eqvAll]
  alike p q := by
    show PySem.W.alike (.tuple _) (.tuple _) = true
    rw [PySem.W.alike, PySem.W.alikeAll, PySem.W.alikeAll, E.alike, E'.alike]
    simp [PySem.W.alikeAll]
  lay p := by
    show ((g p.1).canLay0 && ((g' p.2).canLay0 && true)) = true
    rw [E.lay, E'.lay]
    rfl
  dep p := by
    show max (g p.1).depth (max (g' p.2).depth 0) + 1 ≤ n + 1
    have h1 := E.dep p.1
    have h2 := E'.dep p.2
    omega
theorem EncK.nks (E : EncK n f k) : ∀ xs : List α, D.nks (xs.map f) = some (xs.map k)
  | [] => rfl
  | a :: r => by
    show (match (f a).nk, D.nks (r.map f) with | some k, some ks => some (k :: ks) | _, _ => none) = _
    rw [E.nk, E.nks r]
    rfl
theorem EncK.deps (E : EncK n f k) : ∀ xs : List α, NestedKey.depthAll (xs.map k) ≤ n
  | [] => by simp [NestedKey.depthAll]
  | a :: r => by
    rw [List.map_cons, NestedKey.depthAll]
    exact Nat.max_le.mpr ⟨E.dep a, E.deps r⟩
theorem EncK.injs (E : EncK n f k) : ∀ xs ys : List α, xs.map k = ys.map k → xs = ys
  | [], [], _ => rfl
  | [], _ :: _, h => by cases h
  | _ :: _, [], h => by cases h
  | a :: r, b :: t, h => by
    rw [List.map_cons, List.map_cons] at h
    injection h with h1 h2
    rw [E.inj _ _ h1, E.injs r t h2]
theorem EncK.tup (E : EncK n f k) : EncK (n + 1) (fun xs : List α => D.tup (xs.map f)) (fun xs => NestedKey.tup (xs.map k)) where
  nk xs := by
    show (D.nks (xs.map f)).map _ = _
    rw [E.nks]
    rfl
  inj xs ys h := by
    injection h with h
    exact E.injs _ _ h
  dep xs := by
    rw [NestedKey.depth]
    exact Nat.succ_le_succ (E.deps xs)
theorem EncK.pair (E : EncK n f k) (E' : EncK n f' k') : EncK (n + 1) (fun p : α × β => D.tup [f p.1, f' p.2]) (fun p => NestedKey.tup [k p.1, k' p.2]) where
  nk p := by
    show (D.nks [f p.1, f' p.2]).map _ = _
    have e : D.nks [f p.1, f' p.2] = some [k p.1, k' p.2] := by
      show (match (f p.1).nk, (match (f' p.2).nk, D.nks [] with | some k, some ks => some (k :: ks) | _, _ => none) with | some k, some ks => some (k :: ks) | _, _ => none) = _
      rw [E.nk, E'.nk]
      rfl
    rw [e]
    rfl
  inj p q h := by
    injection h with h
    injection h with h1 h
    injection h with h2 _
    exact Prod.ext (E.inj _ _ h1) (E'.inj _ _ h2)
  dep p := by
    rw [NestedKey.depth, NestedKey.depthAll, NestedKey.depthAll, NestedKey.depthAll]
    have h1 := E.dep p.1
    have h2 := E'.dep p.2
    omega
/-! equality -/
theorem EncP.pv {M : Mem} (E : EncP n f g) (a : α) : PV M (f a) (g a) := .dat (E.py a)
theorem EncP.shaped (E : EncP n f g) (hn : n ≤ 64) (a : α) : SeqAt.shaped (g a) = true := by
  unfold SeqAt.shaped
  rw [E.lay, decide_eq_true (Nat.le_trans (E.dep a) hn)]
  rfl
theorem pdt_eqE {X : Cx} {T : List Addr} {ρ : List (Option D)} {M M1 M2 : Mem} {a b : Expr} {pos : Pos} {x y : α} (E : EncP n f g) (hu : X.A.units + 64 < cLine) (ha : PD X T ρ M a (f x) M1) (hb : PD X T ρ M1 b (f y) M2) (hn : n ≤ 64 := by decide) (hm : behindInMarks .Eq b = false := by first | exact nomark _ | rfl | with_unfolding_all rfl) : PDT X T ρ M (.Compare a [.Eq] [b] pos) (decide (x = y)) M2 :=
  pdt_eqD hu (E.pv x) (E.pv y) (E.shaped hn x) (E.shaped hn y) (E.eqv x y) ha hb hm
theorem pdt_neE {X : Cx} {T : List Addr} {ρ : List (Option D)} {M M1 M2 : Mem} {a b : Expr} {pos : Pos} {x y : α} (E : EncP n f g) (hu : X.A.units + 64 < cLine) (ha : PD X T ρ M a (f x) M1) (hb : PD X T ρ M1 b (f y) M2) (hn : n ≤ 64 := by decide) (hm : behindInMarks .NotEq b = false := by first | exact nomark _ | rfl | with_unfolding_all rfl) : PDT X T ρ M (.Compare a [.NotEq] [b] pos) (!decide (x = y)) M2 :=
  pdt_neD hu (E.pv x) (E.pv y) (E.shaped hn x) (E.shaped hn y) (by rw [E.eqv x y]) ha hb hm
/-! order -/
def leE (f : α → D) (a b : α) : Bool := PySem.W.dataLe false pyD (f a) (f b)
theorem leE_total (f : α → D) : PySem.W.TotalLe (leE f) := by
  have h := PySem.W.sortLe_total (listOrd itemOrd) false (fun b : D => PySem.W.keyToks (pyD b))
  exact ⟨fun a b c h1 h2 => h.trans _ _ _ h1 h2, fun a b => h.total _ _⟩
def srtE (f : α → D) (xs : List α) : List α := xs.mergeSort (leE f)
theorem sortD_enc (f : α → D) (xs : List α) : sortD (xs.map f) = (srtE f xs).map f := by
  unfold sortD srtE
  exact (PySem.W.sort_maps f fun a _ b _ => rfl).symm
theorem srtE_sorted (f : α → D) (xs : List α) : (srtE f xs).Pairwise (fun a b => leE f a b = true) := PySem.W.sort_pairwise (leE_total f) xs
theorem srtE_perm (f : α → D) (xs : List α) : (srtE f xs).Perm xs := List.mergeSort_perm _ _
theorem srtE_same (f : α → D) {xs : List α} (h : xs.Pairwise (fun a b => leE f a b = true)) : srtE f xs = xs := List.mergeSort_of_pairwise h
theorem EncP.srt (E : EncP n f g) (hn : n ≤ 60) {xs : List α} (hl : xs.length ≤ sizeLine) (hs : (∀ a ∈ xs, ∃ x r, g a = .tuple (x :: r)) ∨ ∀ a ∈ xs, g a ≠ .none ∧ ∀ ys, g a ≠ .tuple ys) : Srt (xs.map f) where
  py d hd := by
    obtain ⟨a, _, rfl⟩ := List.mem_map.mp hd
    exact ⟨_, E.py a⟩
  alike := by
    rw [List.map_map]
    intro d hd d' hd'
    obtain ⟨a, _, rfl⟩ := List.mem_map.mp hd
    obtain ⟨b, _, rfl⟩ := List.mem_map.mp hd'
    show PySem.W.alike (pyD (f a)) (pyD (f b)) = true
    rw [pyD_of (E.py a), pyD_of (E.py b)]
    exact E.alike a b
  sortable := by
    rw [List.map_map]
    rcases hs with hs | hs
    · refine .inl fun d hd => ?_
      obtain ⟨a, ha, rfl⟩ := List.mem_map.mp hd
      show ∃ x r, pyD (f a) = _
      rw [pyD_of (E.py a)]
      exact hs a ha
    · refine .inr fun d hd => ?_
      obtain ⟨a, ha, rfl⟩ := List.mem_map.mp hd
      show pyD (f a) ≠ _ ∧ ∀ ys, pyD (f a) ≠ _
      rw [pyD_of (E.py a)]
      exact hs a ha
  dep d hd := by
    obtain ⟨a, _, rfl⟩ := List.mem_map.mp hd
    rw [pyD_of (E.py a)]
    exact Nat.le_trans (E.dep a) hn
  len := by rw [List.length_map]; exact hl
/-! dict([(key, 1) ..]) -/
def ddp : List α → List α → List α
  | acc, [] => acc
  | acc, x :: r => ddp (if x ∈ acc then acc else acc ++ [x]) r
theorem ddp_mem : ∀ (r acc : List α) (a : α), a ∈ ddp acc r ↔ a ∈ acc ∨ a ∈ r
  | [], acc, a => by simp [ddp]
  | x :: r, acc, a => by
    rw [ddp, ddp_mem r]
    split
    · rename_i h
      constructor
      · rintro (q | q)
        · exact .inl q
        · exact .inr (List.mem_cons_of_mem _ q)
      · rintro (q | q)
        · exact .inl q
        · rcases List.mem_cons.mp q with q | q
          · subst q; exact .inl h
          · exact .inr q
    · rw [List.mem_append, List.mem_singleton, List.mem_cons, or_assoc]
theorem ddp_nodup : ∀ (r acc : List α), acc.Nodup → (ddp acc r).Nodup
  | [], acc, h => h
  | x :: r, acc, h => by
    rw [ddp]
    apply ddp_nodup
    split
    · exact h
    · rename_i hx
      rw [List.nodup_append]
      exact ⟨h, List.nodup_cons.mpr ⟨List.not_mem_nil, List.nodup_nil⟩, fun a ha b hb e => hx (by rw [List.mem_singleton.mp hb] at e; rw [← e]; exact ha)⟩
theorem ddp_len : ∀ (r acc : List α), (ddp acc r).length ≤ acc.length + r.length
  | [], acc => Nat.le_refl _
  | x :: r, acc => by
    rw [ddp]
    refine Nat.le_trans (ddp_len r _) ?_
    split
    · rw [List.length_cons]; omega
    · simp only [List.length_append, List.length_cons, List.length_nil]; omega
theorem ddp_same : ∀ (r acc : List α), (acc ++ r).Nodup → ddp acc r = acc ++ r
  | [], acc, h => by rw [ddp, List.append_nil]
  | x :: r, acc, h => by
    have hx : x ∉ acc := fun q => by
      rw [List.nodup_append] at h
      exact h.2.2 x q x List.mem_cons_self rfl
    rw [ddp, if_neg hx, ddp_same r, List.append_assoc]
    · rfl
    · rw [List.append_assoc]; exact h
def oneD (f : α → D) (a : α) : D × D := (f a, .int 1)
theorem dput_one (E : EncK n f k) (acc : List α) (x : α) : dput (acc.map (oneD f)) (f x) (.int 1) = (if x ∈ acc then acc else acc ++ [x]).map (oneD f) := by
  have ht : (acc.map (oneD f)).any (fun p => nkEq p.1 (f x)) = decide (x ∈ acc) := by
    by_cases h : x ∈ acc
    · rw [decide_eq_true h]
      exact List.any_eq_true.mpr ⟨oneD f x, List.mem_map.mpr ⟨x, h, rfl⟩, by unfold nkEq; exact decide_eq_true rfl⟩
    · rw [decide_eq_false h]
      refine Bool.eq_false_iff.mpr fun q => h ?_
      obtain ⟨p, hp, e⟩ := List.any_eq_true.mp q
      obtain ⟨a, ha, rfl⟩ := List.mem_map.mp hp
      unfold nkEq at e
      have e := of_decide_eq_true e
      have e : (f a).nk = (f x).nk := e
      rw [E.nk, E.nk] at e
      injection e with e
      rw [← E.inj _ _ e]
      exact ha
  unfold dput
  rw [ht]
  by_cases h : x ∈ acc
  · rw [decide_eq_true h, if_pos rfl, if_pos h, List.map_map]
    refine List.map_congr_left fun a _ => ?_
    show (if nkEq (f a) (f x) = true then ((f a), D.int 1) else oneD f a) = oneD f a
    split <;> rfl
  · rw [decide_eq_false h, if_neg Bool.false_ne_true, if_neg h, List.map_append]
    rfl
theorem dmrg_one (E : EncK n f k) : ∀ (xs acc : List α), dmrg (acc.map (oneD f)) (xs.map (oneD f)) = (ddp acc xs).map (oneD f)
  | [], acc => rfl
  | x :: r, acc => by
    show dmrg (dput (acc.map (oneD f)) (f x) (.int 1)) (r.map (oneD f)) = _
    rw [dput_one E, dmrg_one E r]
    rfl
theorem dmrg_ones (E : EncK n f k) (xs : List α) : dmrg [] (xs.map (oneD f)) = (ddp [] xs).map (oneD f) := dmrg_one E xs []
theorem keys_one (f : α → D) (xs : List α) : (xs.map (oneD f)).map (·.1) = xs.map f := by
  rw [List.map_map]
  rfl
end
end LW

set_option Elab.async false
set_option linter.all false
set_option maxRecDepth 100000
set_option maxHeartbeats 4000000
/-! LR: comprehensions over a range, by turns; rolls in a row. -/
namespace LW
open PySem PySem.Spec PyProof.Rows L2
theorem given_all (n : Nat) (el : Nat → D) : given n (fun _ => true) el = (List.range n).map el := by
  unfold given
  rw [List.filter_eq_self.mpr fun _ _ => rfl]
theorem rngD_at {n : Nat} {i : Nat} {d : D} {us : List D} (h : (rngD 0 n)[i]? = some d) (hu : (fun d : D => some [d]) d = some us) : i < n ∧ us = [.int i] := by
  obtain ⟨h1, h2⟩ := rngD_get h
  cases hu
  exact ⟨h1, by rw [h2, Int.zero_add]⟩
section
variable {X : Cx} {T : List Addr} {ρ : List (Option D)} {M M1 : Mem} {d : D} {elt iter tg : Expr} {ifs : List Expr} {pos p tpos : Pos} {scope : Scope} {g : TG} {own : List (Str × Nat)} {n : Nat}
theorem pd_lcN {Ms Mt : Nat → Mem} {kp : Nat → Bool} {el : Nat → D} (ik : Nat) (hi : PDI X T ρ M tg iter (rngD 0 n) M1 (fun _ => True)) (hN : X.N.Nodup) (bk : BlkOk X.N X.env.scope scope own) (hg : Blks X scope fun X' => PG X' tg g) (ht : Tgt X.w g [ik] fun d => some [d]) (hv : ∀ i ∈ [ik], i ∈ own.map (·.2))
    (h0 : Ms 0 = M1) (hno : ∀ i, i < n → kp i = false → Mt i = Ms (i + 1)) (hz : n ≤ 16000000)
    (htt : ∀ (i : Nat), i < n → Blks X scope fun X' => PDTs X' T (setsD (wipeD ρ (own.map (·.2))) [ik] [.int i]) (Ms i) ifs (kp i) (Mt i))
    (hee : ∀ (i : Nat), i < n → kp i = true → Blks X scope fun X' => PD X' T (setsD (wipeD ρ (own.map (·.2))) [ik] [.int i]) (Mt i) elt (el i) (Ms (i + 1)))
    (hc : X.calm = true := by rfl) (hs : ∀ x, foldedSetIterable iter X.env x = pure x := by intro _; rfl) : PD X T ρ M (.ListComp elt [⟨tg, iter, ifs, 0⟩] scope pos) (.lst (given n kp el)) (Ms n) := by
  have h := pd_lcI (Ms := Ms) (Mt := Mt) (kp := kp) (el := el) (pos := pos) (elt := elt) (ifs := ifs) hi hN bk hg ht hv h0 (fun _ _ => trivial) (fun i d h => ⟨_, rfl⟩) (fun i h1 h2 => hno i (by rw [rngD_length] at h1; exact h1) h2) (by rw [rngD_length]; exact hz)
    (fun i d us h1 h2 => by obtain ⟨h3, rfl⟩ := rngD_at h1 h2; exact htt i h3) (fun i d us h1 h2 h4 => by obtain ⟨h3, rfl⟩ := rngD_at h1 h2; exact hee i h3 h4) hc hs
  rw [rngD_length] at h
  exact h
theorem pb_setLcN {Ms Mt : Nat → Mem} {kp : Nat → Bool} {el : Nat → D} {rest : List Stmt} {Nx : List (Option D) → Mem → Prop} {Rt : D → Mem → Prop} (i ik : Nat) {y : Str} {py spos : Pos} (hi : PDI X T ρ M tg iter (rngD 0 n) M1 (fun _ => True)) (hN : X.N.Nodup) (bk : BlkOk X.N X.env.scope scope own) (hg : Blks X scope fun X' => PG X' tg g) (ht : Tgt X.w g [ik] fun d => some [d]) (hv : ∀ i ∈ [ik], i ∈ own.map (·.2))
    (h0 : Ms 0 = M1) (hno : ∀ i, i < n → kp i = false → Mt i = Ms (i + 1)) (hz : n ≤ 16000000)
    (htt : ∀ (i : Nat), i < n → Blks X scope fun X' => PDTs X' T (setsD (wipeD ρ (own.map (·.2))) [ik] [.int i]) (Ms i) ifs (kp i) (Mt i))
    (hee : ∀ (i : Nat), i < n → kp i = true → Blks X scope fun X' => PD X' T (setsD (wipeD ρ (own.map (·.2))) [ik] [.int i]) (Mt i) elt (el i) (Ms (i + 1)))
    (k : PB X T (ρ.set i (some (.lst (given n kp el)))) (Ms n) rest Nx Rt)
    (hy : X.N[i]? = some y := by rfl) (hyl : X.env.scope.names.lookup y = some .local := by rfl) (hsw : swapsWith (.ListComp elt [⟨tg, iter, ifs, 0⟩] scope pos) (some (.Name y py)) spos.line X.env = pure true := by exact sw_true rfl rfl rfl (by decide +kernel))
    (hc : X.calm = true := by rfl) (hs : ∀ x, foldedSetIterable iter X.env x = pure x := by intro _; rfl) : PB X T ρ M (.Assign [.Name y py] (.ListComp elt [⟨tg, iter, ifs, 0⟩] scope pos) spos :: rest) Nx Rt := by
  refine pb_setLcI (Ms := Ms) (Mt := Mt) (kp := kp) (el := el) i hi hN bk hg ht hv h0 (fun _ _ => trivial) (fun i d h => ⟨_, rfl⟩) (fun i h1 h2 => hno i (by rw [rngD_length] at h1; exact h1) h2) (by rw [rngD_length]; exact hz)
    (fun i d us h1 h2 => by obtain ⟨h3, rfl⟩ := rngD_at h1 h2; exact htt i h3) (fun i d us h1 h2 h4 => by obtain ⟨h3, rfl⟩ := rngD_at h1 h2; exact hee i h3 h4) ?_ hy hyl hsw hc hs
  rw [rngD_length]
  exact k
end
/-! rolls in a row -/
def rollsC (c : Dice) (m : Int) : Nat → Dice
  | 0 => c
  | n + 1 => rollC (rollsC c m n) m
def rollL (c : Dice) (m : Int) (n : Nat) : List Int := (List.range n).map fun i => rollV (rollsC c m i) m
theorem rollL_len (c : Dice) (m : Int) (n : Nat) : (rollL c m n).length = n := by simp [rollL]
theorem rollL_range (c : Dice) {m : Int} (h : 0 < m) (n : Nat) : ∀ x ∈ rollL c m n, 0 ≤ x ∧ x < m := fun x hx => by
  obtain ⟨i, _, rfl⟩ := List.mem_map.mp hx
  exact rollV_range _ h
end LW

set_option Elab.async false
set_option linter.all false
set_option maxRecDepth 100000
set_option maxHeartbeats 4000000
/-! LS: assignments by a relation. -/
namespace LW
open PySem PySem.Spec PyProof.Rows L2
section
variable {X : Cx} {T : List Addr} {ρ : List (Option D)} {M M1 : Mem} {d : D} {e : Expr} {es : List Expr} {pos : Pos} {R : D → Mem → Prop} {rest : List Stmt} {Nx : List (Option D) → Mem → Prop} {Rt : D → Mem → Prop}
theorem pb_asgGR {g : TG} {is : List Nat} {unp : D → Option (List D)} {tg : Expr} (he : PDR X T ρ M e R) (hg : PG X tg g) (ht : Tgt X.w g is unp) (k : ∀ d m, R d m → ∃ us, unp d = some us ∧ PB X T (setsD ρ is us) m rest Nx Rt)
    (hs : swapsWithSole [tg] e pos.line X.env = pure false := by rfl) (hw : swappedStores [tg] e X.env = pure none := by rfl) (h1 : (assignEach [tg] X.env).map (·.2) = [assign tg X.env] := by rfl) : PB X T ρ M (.Assign [tg] e pos :: rest) Nx Rt := by
  refine pb_seq (Nx1 := fun ρ' m => ∃ d us, R d m ∧ unp d = some us ∧ ρ' = setsD ρ is us) (PS.imp (ps_asg he hg hs hw h1) fun Dd σ H ⟨G, hs', sl, k1, k2⟩ => ?_) fun ρ' m ⟨d, us, r, hu, e1⟩ => by
    subst e1
    obtain ⟨us', hu', h⟩ := k d m r
    rw [hu] at hu'
    cases hu'
    exact h
  exact ⟨G, hs', sl, fun v G1 H1 d m r st1 hs1 r1 => by
    obtain ⟨us, hu, _⟩ := k d m r
    exact ht.ok T v σ G1 H1 m _ d us hs1 r1 hu fun σ' hsl _ => k1 σ' G1 H1 _ _ ⟨d, us, r, hu, rfl⟩ st1 hs1 (hsl ρ (sl.up st1.up))⟩
theorem pdlr_imp {RL RL' : List D → Mem → Prop} (h : PDLR X T ρ M es RL) (u : ∀ ds m, RL ds m → RL' ds m) : PDLR X T ρ M es RL' :=
  PA.imp h fun σ H Q ⟨G, hs, sl, k⟩ => ⟨G, hs, sl, fun vs G' H' ds m r => k vs G' H' ds m (u ds m r)⟩
theorem pdr_tup {RL : List D → Mem → Prop} {x1} (h : PDLR X T ρ M es RL) (hl : ∀ ds m, RL ds m → ds.length ≤ sizeLine) : PDR X T ρ M (.Tuple es x1 pos) (fun d m => ∃ ds, d = .tup ds ∧ RL ds m) :=
  (pe_tup h).imp fun σ H Q ⟨G, hs, sl, k⟩ => ⟨G, hs, sl, fun vs G1 H1 ds m rl st1 hs1 r1 => ⟨by rw [r1.length]; exact hl ds m rl, fun p hp =>
    k _ _ _ _ m ⟨ds, rfl, rl⟩ (st1.trans (Step.newI hs1 hp)) (hs1.new hp fun _ q => by cases q) (.tup upd_same (r1.up (up_upd (hs1.freshG hp))))⟩⟩
end
end LW

set_option Elab.async false
set_option linter.all false
set_option maxRecDepth 100000
set_option maxHeartbeats 2000000
/-! LT: dicts asked and written, whatever kind their keys are. -/
namespace LW
open PySem PySem.Spec PyProof.Rows L2
section
variable {P : Program} {w : World} {G G' H : Hp} {K : Type} [DecidableEq K] {knd : KeyKind P w K} {ek : K → D} {vk : K → V} {nkk : K → NestedKey}
theorem ddel_cons {p : D × D} {r : List (D × D)} {k : D} : ddel (p :: r) k = if nkEq p.1 k = true then ddel r k else p :: ddel r k := by
  unfold ddel
  rw [List.filter_cons]
  cases nkEq p.1 k <;> rfl
theorem RP.del (x : KX P w knd ek vk nkk) (k : K) : ∀ {zs : List (K × Value)} {ds : List (D × D)}, RP w G ek zs ds → RP w G ek (without zs k) (ddel ds (ek k))
  | _, _, .nil => .nil
  | _, _, .cons (k := j) (u := u) (v := v) (d := d) a b r => by
    rw [ddel_cons]
    simp only [without, List.filter_cons, x.eq]
    by_cases h : j = k
    · simp only [h, decide_true, ne_eq, not_true_eq_false, decide_false, Bool.false_eq_true, if_false, if_true]
      exact RP.del x k r
    · simp only [h, ne_eq, not_false_eq_true, decide_true, decide_false, Bool.false_eq_true, if_false, if_true]
      exact .cons a b (RP.del x k r)
theorem RH.del {dk : D} {k : NestedKey} (hk : dk.nk = some k) : ∀ {xs : List (NestedKey × Addr × Value)} {ds : List (D × D)}, RH w G xs ds → RH w G (withoutH xs k) (ddel ds dk)
  | _, _, .nil => .nil
  | _, _, .cons (k := j) e a b c r => by
    rw [ddel_cons, nkEq_of e hk]
    simp only [withoutH, List.filter_cons]
    by_cases h : j = k
    · simp only [h, decide_true, ne_eq, not_true_eq_false, decide_false, Bool.false_eq_true, if_false, if_true]
      exact RH.del hk r
    · simp only [h, ne_eq, not_false_eq_true, decide_true, decide_false, Bool.false_eq_true, if_false, if_true]
      exact .cons e a b c (RH.del hk r)
theorem RH.get {dk : D} {k : NestedKey} (hk : dk.nk = some k) : ∀ {xs : List (NestedKey × Addr × Value)} {ds : List (D × D)}, RH w G xs ds → (atKey xs k = none ∧ dget ds dk = none) ∨ ∃ a u v d, atKey xs k = some (a, u) ∧ dget ds dk = some d ∧ RelV v u ∧ Dt w G v d
  | _, _, .nil => .inl ⟨rfl, rfl⟩
  | _, _, .cons (k := j) (a := ad) (u := u) (v := v) (d := d) e a b c r => by
    unfold atKey dget
    by_cases h : j = k
    · refine .inr ⟨ad, u, v, d, ?_, ?_, c, b⟩
      · rw [List.find?_cons_of_pos (by simpa using h)]; rfl
      · rw [List.find?_cons_of_pos (by simp [nkEq_of e hk, h])]; rfl
    · rw [List.find?_cons_of_neg (by simpa using h), List.find?_cons_of_neg (by simp [nkEq_of e hk, h])]
      exact RH.get hk r
end
/-- a dict as it stands, beside its data -/
structure DSt (w : World) (G H : Hp) (a : Addr) (L : List (Int × V × V)) (kvs : List (D × D)) : Prop where
  sub : ∀ b o, G b = some o → H b = some o
  rd : Rd H a (dicO a L)
  ent : DtE w G L kvs
  ok : DicOk a kvs
/-- a kind of keys that the dict's operations know -/
structure DKey (X : Cx) (kd : D → Prop) : Prop where
  item : ∀ {pins : List (Addr × Obj)} {σ : L2.St} {H : Hp} {s : Shared} {G : Hp} {a : Addr} {L : List (Int × V × V)} {kvs : List (D × D)} {y : V} {dk dv : D} {u : Value} {Q : Value → Shared → Prop} {E : Value → Shared → Prop}, X.A.units + 20 < cLine → L2.Inv X pins σ H s → DSt X.w G H a L kvs → (∀ p ∈ kvs, kd p.1) → kd dk → Dt X.w G y dk → RelV y u → dget kvs dk = some dv →
    (∀ x w' s', L2.Inv X pins σ H s' → RelV x w' → Dt X.w G x dv → Q w' s') → wpAny (model X.prog X.w) X.A (getItem (.ref a) u) Q E s
  has : ∀ {pins : List (Addr × Obj)} {σ : L2.St} {H : Hp} {s : Shared} {G : Hp} {a : Addr} {L : List (Int × V × V)} {kvs : List (D × D)} {y : V} {dk : D} {u : Value} {Q : Value → Shared → Prop} {E : Value → Shared → Prop}, X.A.units + 20 < cLine → L2.Inv X pins σ H s → DSt X.w G H a L kvs → (∀ p ∈ kvs, kd p.1) → kd dk → Dt X.w G y dk → RelV y u →
    (∀ s', L2.Inv X pins σ H s' → Q (.bool (dget kvs dk).isSome) s') → wpAny (model X.prog X.w) X.A (compareOp .In u (.ref a)) Q E s
  hasnt : ∀ {pins : List (Addr × Obj)} {σ : L2.St} {H : Hp} {s : Shared} {G : Hp} {a : Addr} {L : List (Int × V × V)} {kvs : List (D × D)} {y : V} {dk : D} {u : Value} {Q : Value → Shared → Prop} {E : Value → Shared → Prop}, X.A.units + 20 < cLine → L2.Inv X pins σ H s → DSt X.w G H a L kvs → (∀ p ∈ kvs, kd p.1) → kd dk → Dt X.w G y dk → RelV y u →
    (∀ s', L2.Inv X pins σ H s' → Q (.bool (!(dget kvs dk).isSome)) s') → wpAny (model X.prog X.w) X.A (compareOp .NotIn u (.ref a)) Q E s
  get : ∀ {pins : List (Addr × Obj)} {σ : L2.St} {H : Hp} {s : Shared} {G : Hp} {a : Addr} {L : List (Int × V × V)} {kvs : List (D × D)} {y z : V} {dk : D} {u r : Value} {us : List Value} {Q : Value → Shared → Prop} {E : Value → Shared → Prop}, X.A.units + 20 < cLine → L2.Inv X pins σ H s → DSt X.w G H a L kvs → (∀ p ∈ kvs, kd p.1) → kd dk → Dt X.w G y dk → RelV y u →
    ((us = [u] ∧ z = .non) ∨ (us = [u, r] ∧ RelV z r)) → (∀ x w' s', L2.Inv X pins σ H s' → RelV x w' → ((dget kvs dk = none ∧ x = z) ∨ ∃ dv, dget kvs dk = some dv ∧ Dt X.w G x dv) → Q w' s') → wpAny (model X.prog X.w) X.A (call (.builtin "dict.get") (.ref a :: us)) Q E s
  put : ∀ {pins : List (Addr × Obj)} {σ : L2.St} {H : Hp} {s : Shared} {G : Hp} {a : Addr} {L : List (Int × V × V)} {kvs : List (D × D)} {y z : V} {dk dv : D} {u r : Value} {Q : Unit → Shared → Prop} {E : Value → Shared → Prop}, X.A.units + 20 < cLine → L2.Inv X pins σ H s → DSt X.w G H a L kvs → (∀ p ∈ kvs, kd p.1) → kd dk → Dt X.w G y dk → RelV y u → H a = some (dicO a L) → Dt X.w G z dv → RelV z r →
    (∀ L' s', DtE X.w G L' (dput kvs dk dv) → L2.Inv X pins σ (upd H a (dicO a L')) s' → Q () s') → wpAny (model X.prog X.w) X.A (setItem (.ref a) u r) Q E s
  del : ∀ {pins : List (Addr × Obj)} {σ : L2.St} {H : Hp} {s : Shared} {G : Hp} {a : Addr} {L : List (Int × V × V)} {kvs : List (D × D)} {y : V} {dk : D} {u : Value} {Q : Unit → Shared → Prop} {E : Value → Shared → Prop}, X.A.units + 20 < cLine → L2.Inv X pins σ H s → DSt X.w G H a L kvs → (∀ p ∈ kvs, kd p.1) → kd dk → Dt X.w G y dk → RelV y u → H a = some (dicO a L) → (dget kvs dk).isSome = true →
    (∀ L' s', DtE X.w G L' (ddel kvs dk) → L2.Inv X pins σ (upd H a (dicO a L')) s' → Q () s') → wpAny (model X.prog X.w) X.A (delItem (.ref a) u) Q E s
/-- keys carried by value -/
theorem dkey_x {X : Cx} {K : Type} [DecidableEq K] {knd : KeyKind X.prog X.w K} {ek : K → D} {vk : K → V} {nkk : K → NestedKey} (x : KX X.prog X.w knd ek vk nkk) : DKey X (fun d => ∃ k, d = ek k) where
  item := fun {pins σ H s G a L kvs y dk dv u Q E} hu I d hk kd ry ru hg h => by
    obtain ⟨k, rfl⟩ := kd
    cases x.v_of ry
    obtain ⟨zs, hd, rp⟩ := of_dic x (rd_ok I d.rd) d.ent hk d.ok.nd
    rcases rp.get x k with ⟨e1, e2⟩ | ⟨u', y', d', e1, e2, r1, r2⟩
    · rw [hg] at e2; cases e2
    · rw [hg] at e2
      cases e2
      exact wpAny_getItem_of (x.is_ ru) hd.mapOf e1 (h _ _ _ (I.tok _) r1 r2)
  has := fun {pins σ H s G a L kvs y dk u Q E} hu I d hk kd ry ru h => by
    obtain ⟨k, rfl⟩ := kd
    cases x.v_of ry
    obtain ⟨zs, hd, rp⟩ := of_dic x (rd_ok I d.rd) d.ent hk d.ok.nd
    refine wpAny_in_of (x.is_ ru) d.ok.sys hd.mapOf ?_
    rcases rp.get x k with ⟨e1, e2⟩ | ⟨u', y', d', e1, e2, r1, r2⟩ <;> (have := h _ (I.tok (s.toks + 1)); rw [e2] at this; rw [e1]; exact this)
  hasnt := fun {pins σ H s G a L kvs y dk u Q E} hu I d hk kd ry ru h => by
    obtain ⟨k, rfl⟩ := kd
    cases x.v_of ry
    obtain ⟨zs, hd, rp⟩ := of_dic x (rd_ok I d.rd) d.ent hk d.ok.nd
    refine wpAny_notIn_of (x.is_ ru) d.ok.sys hd.mapOf ?_
    rcases rp.get x k with ⟨e1, e2⟩ | ⟨u', y', d', e1, e2, r1, r2⟩ <;> (have := h _ (I.tok (s.toks + 1)); rw [e2] at this; rw [e1]; exact this)
  get := fun {pins σ H s G a L kvs y z dk u r us Q E} hu I d hk kd ry ru hus h => by
    obtain ⟨k, rfl⟩ := kd
    cases x.v_of ry
    obtain ⟨zs, hd, rp⟩ := of_dic x (rd_ok I d.rd) d.ent hk d.ok.nd
    have fin : ∀ (dv : Value), RelV z dv → Q ((valueAt zs k).getD dv) { s with toks := s.toks + 1 } := fun dv rd => by
      rcases rp.get x k with ⟨e1, e2⟩ | ⟨u, y, d, e1, e2, r1, r2⟩
      · rw [e1]
        exact h z _ _ (I.tok _) rd (.inl ⟨e2, rfl⟩)
      · rw [e1]
        exact h y _ _ (I.tok _) r1 (.inr ⟨d, e2, r2⟩)
    rcases hus with ⟨rfl, rfl⟩ | ⟨rfl, rz⟩
    · exact call_meetsIn F.slot_dict_get hd.typeIs F.entry_dict_get (F.args_dict_get_2 _ _) (meets_dict_get knd a (x.is_ ru) d.ok.sys) ⟨_, hd.mapOf, fin _ rfl⟩
    · exact call_meetsIn F.slot_dict_get hd.typeIs F.entry_dict_get (F.args_dict_get_3 _ _ _) (meets_dict_get_default knd a (x.is_ ru) d.ok.sys r) ⟨_, hd.mapOf, fin _ rz⟩
  put := fun {pins σ H s G a L kvs y z dk dv u r Q E} hu I d hk kd ry ru ha rz rr h => by
    obtain ⟨k, rfl⟩ := kd
    cases x.v_of ry
    obtain ⟨zs, hd, rp⟩ := of_dic x (rd_ok I d.rd) d.ent hk d.ok.nd
    refine wpAny_setItem_pairs (hsz := by rw [rp.length]; exact d.ok.len) (x.is_ ru) hd fun h' hd' hs => ?_
    obtain ⟨L', ob, hE', gob, hok⟩ := to_dic x hd' (rp.put x rz rr)
    exact h L' _ hE' (d_write I (by rw [ha]; exact True.intro) hs ⟨_, gob⟩ (hok _))
  del := fun {pins σ H s G a L kvs y dk u Q E} hu I d hk kd ry ru ha hg h => by
    obtain ⟨k, rfl⟩ := kd
    cases x.v_of ry
    obtain ⟨zs, hd, rp⟩ := of_dic x (rd_ok I d.rd) d.ent hk d.ok.nd
    have hv : (valueAt zs k).isSome = true := by
      rcases rp.get x k with ⟨e1, e2⟩ | ⟨u', y', d', e1, e2, r1, r2⟩
      · rw [e2] at hg; cases hg
      · rw [e1]; rfl
    refine wpAny_delItem_slot hd.typeIs (by decide) PySem.F.slot_dict_delitem
      (call_meetsIn PySem.F.slot_dict_delitem hd.typeIs PySem.F.entry_dict_delitem (PySem.F.args_dict_delitem_2 _ _) (meets_dict_delitem_pairs knd a (x.is_ ru)) ⟨zs, hd, by rw [rp.length]; exact d.ok.len, hv, fun h' hd' hs => ?_⟩)
    obtain ⟨L', ob, hE', gob, hok⟩ := to_dic x hd' (rp.del x k)
    exact h L' _ hE' (d_write I (by rw [ha]; exact True.intro) hs ⟨_, gob⟩ (hok _))
/-- a key that is a tuple -/
def tKey (d : D) : Prop := KT.t.of d = true ∧ ∃ k, d.nk = some k ∧ k.depth ≤ 8
theorem Dt.refT {w : World} {G : Hp} {v : V} {d : D} (h : KT.t.of d = true) (r : Dt w G v d) : ∃ b, v = .ref b := by
  cases r with
  | tup e r => exact ⟨_, rfl⟩
  | _ => cases h
theorem dkey_t {X : Cx} : DKey X tKey where
  item := fun {pins σ H s G a L kvs y dk dv u Q E} hu I d hk kd ry ru hg h => by
    obtain ⟨kt, k, nk, hdep⟩ := kd
    obtain ⟨b, rfl⟩ := ry.refT kt
    cases ru
    obtain ⟨xs, hd, rh⟩ := of_dicH I.hok d.sub (rd_ok I d.rd) d.ent (fun p hp => (hk p hp).1) d.ok.nd d.ok.dep
    have his : (nestedKind X.prog X.w).is s.heap k b := ⟨Dt.nested I.hok d.sub ry rfl nk, hdep⟩
    rcases rh.get nk with ⟨e1, e2⟩ | ⟨b', u', y', d', e1, e2, r1, r2⟩
    · rw [hg] at e2; cases e2
    · rw [hg] at e2
      cases e2
      exact wpAny_getItem_heap (by show X.A.units + 1 + 8 < cLine; omega) his hd e1 (h _ _ _ (I.tok _) r1 r2)
  has := fun {pins σ H s G a L kvs y dk u Q E} hu I d hk kd ry ru h => by
    obtain ⟨kt, k, nk, hdep⟩ := kd
    obtain ⟨b, rfl⟩ := ry.refT kt
    cases ru
    obtain ⟨xs, hd, rh⟩ := of_dicH I.hok d.sub (rd_ok I d.rd) d.ent (fun p hp => (hk p hp).1) d.ok.nd d.ok.dep
    have his : (nestedKind X.prog X.w).is s.heap k b := ⟨Dt.nested I.hok d.sub ry rfl nk, hdep⟩
    refine wpAny_in_heap (by show X.A.units + 1 + 8 < cLine; omega) his d.ok.sys hd ?_
    rcases rh.get nk with ⟨e1, e2⟩ | ⟨b', u', y', d', e1, e2, r1, r2⟩ <;> (have := h _ (I.tok (s.toks + (nestedKind X.prog X.w).draws k)); rw [e2] at this; rw [e1]; exact this)
  hasnt := fun {pins σ H s G a L kvs y dk u Q E} hu I d hk kd ry ru h => by
    obtain ⟨kt, k, nk, hdep⟩ := kd
    obtain ⟨b, rfl⟩ := ry.refT kt
    cases ru
    obtain ⟨xs, hd, rh⟩ := of_dicH I.hok d.sub (rd_ok I d.rd) d.ent (fun p hp => (hk p hp).1) d.ok.nd d.ok.dep
    have his : (nestedKind X.prog X.w).is s.heap k b := ⟨Dt.nested I.hok d.sub ry rfl nk, hdep⟩
    refine wpAny_notIn_heap (by show X.A.units + 1 + 8 < cLine; omega) his d.ok.sys hd ?_
    rcases rh.get nk with ⟨e1, e2⟩ | ⟨b', u', y', d', e1, e2, r1, r2⟩ <;> (have := h _ (I.tok (s.toks + (nestedKind X.prog X.w).draws k)); rw [e2] at this; rw [e1]; exact this)
  get := fun {pins σ H s G a L kvs y z dk u r us Q E} hu I d hk kd ry ru hus h => by
    obtain ⟨kt, k, nk, hdep⟩ := kd
    obtain ⟨b, rfl⟩ := ry.refT kt
    cases ru
    obtain ⟨xs, hd, rh⟩ := of_dicH I.hok d.sub (rd_ok I d.rd) d.ent (fun p hp => (hk p hp).1) d.ok.nd d.ok.dep
    have his : (nestedKind X.prog X.w).is s.heap k b := ⟨Dt.nested I.hok d.sub ry rfl nk, hdep⟩
    have fin : ∀ (dv : Value), RelV z dv → Q (((atKey xs k).map (·.2)).getD dv) { s with toks := s.toks + (nestedKind X.prog X.w).draws k } := fun dv rd => by
      rcases rh.get nk with ⟨e1, e2⟩ | ⟨b', u, y, d, e1, e2, r1, r2⟩
      · rw [e1]
        exact h z _ _ (I.tok _) rd (.inl ⟨e2, rfl⟩)
      · rw [e1]
        exact h y _ _ (I.tok _) r1 (.inr ⟨d, e2, r2⟩)
    rcases hus with ⟨rfl, rfl⟩ | ⟨rfl, rz⟩
    · exact call_meetsIn F.slot_dict_get hd.typeIs F.entry_dict_get (F.args_dict_get_2 _ _) (meetsH_dict_get (nestedKind X.prog X.w) a b d.ok.sys) ⟨by show X.A.units + 1 + 8 < cLine; omega, k, xs, his, hd, fin _ rfl⟩
    · exact call_meetsIn F.slot_dict_get hd.typeIs F.entry_dict_get (F.args_dict_get_3 _ _ _) (meetsH_dict_get_default (nestedKind X.prog X.w) a b d.ok.sys r) ⟨by show X.A.units + 1 + 8 < cLine; omega, k, xs, his, hd, fin _ rz⟩
  put := fun {pins σ H s G a L kvs y z dk dv u r Q E} hu I d hk kd ry ru ha rz rr h => by
    obtain ⟨kt, k, nk, hdep⟩ := kd
    obtain ⟨b, rfl⟩ := ry.refT kt
    cases ru
    obtain ⟨xs, hd, rh⟩ := of_dicH I.hok d.sub (rd_ok I d.rd) d.ent (fun p hp => (hk p hp).1) d.ok.nd d.ok.dep
    have his : (nestedKind X.prog X.w).is s.heap k b := ⟨Dt.nested I.hok d.sub ry rfl nk, hdep⟩
    refine wpAny_setItem_heap (hsz := by rw [rh.length]; exact d.ok.len) (by show X.A.units + 1 + 8 < cLine; omega) his hd fun h' hd' hs => ?_
    obtain ⟨L', ob, hE', gob, hok⟩ := to_dicH hd' (rh.put nk ry rz rr)
    exact h L' _ hE' (d_write I (by rw [ha]; exact True.intro) hs ⟨_, gob⟩ (hok _))
  del := fun {pins σ H s G a L kvs y dk u Q E} hu I d hk kd ry ru ha hg h => by
    obtain ⟨kt, k, nk, hdep⟩ := kd
    obtain ⟨b, rfl⟩ := ry.refT kt
    cases ru
    obtain ⟨xs, hd, rh⟩ := of_dicH I.hok d.sub (rd_ok I d.rd) d.ent (fun p hp => (hk p hp).1) d.ok.nd d.ok.dep
    have his : (nestedKind X.prog X.w).is s.heap k b := ⟨Dt.nested I.hok d.sub ry rfl nk, hdep⟩
    rcases rh.get nk with ⟨e1, e2⟩ | ⟨b', u', y', d', e1, e2, r1, r2⟩
    · rw [e2] at hg; cases hg
    · refine wpAny_delItem_heap (hsz := by rw [rh.length]; exact d.ok.len) (by show X.A.units + 1 + 8 < cLine; omega) his d.ok.sys hd e1 fun h' hd' hs => ?_
      obtain ⟨L', ob, hE', gob, hok⟩ := to_dicH hd' (rh.del nk)
      exact h L' _ hE' (d_write I (by rw [ha]; exact True.intro) hs ⟨_, gob⟩ (hok _))
/-! bools as keys -/
def boolIs (b : Bool) (v : Value) : Bool := match v with
  | .bool c => decide (c = b)
  | _ => false
theorem boolIs_eq {b : Bool} {v : Value} (h : boolIs b v = true) : v = .bool b := by
  cases v with
  | bool c => exact congrArg Value.bool (of_decide_eq_true h)
  | _ => cases h
def b01 (b : Bool) : Int := if b = true then 1 else 0
theorem b01_inj {a b : Bool} (h : b01 a = b01 b) : a = b := by cases a <;> cases b <;> first | rfl | (cases h)
def boolKind (P : Program) (w : World) : KeyKind P w Bool where
  is := boolIs
  hash := fun b => (leafKind P w).hash (.num (b01 b))
  inj := fun v a b ha hb => by
    have e := boolIs_eq ha
    rw [boolIs_eq hb] at e
    cases e
    rfl
  byValue := fun k v h => by rw [boolIs_eq h]; rfl
  pyHash := fun {A E s k v Q} h q => by
    rw [boolIs_eq h]
    exact (leafKind P w).pyHash (k := .num (b01 k)) (by cases k <;> rfl) q
  eqBool := fun {A E s a b u v Q} ha hb q => by
    rw [boolIs_eq ha, boolIs_eq hb]
    refine (leafKind P w).eqBool (a := .num (b01 a)) (b := .num (b01 b)) (by cases a <;> rfl) (by cases b <;> rfl) ?_
    have e : decide (Leaf.num (b01 a) = Leaf.num (b01 b)) = decide (a = b) := by cases a <;> cases b <;> rfl
    rw [e]
    exact q
  «strs» := fun k x t v h => by cases h
theorem kx_bool (P : Program) (w : World) : KX P w (boolKind P w) D.bl V.bl (fun b => NestedKey.num (b01 b)) where
  v_of := fun r => by cases r; rfl
  of_v := fun G k => .bl k
  is_ := fun {k u} r => by cases r; exact decide_eq_true rfl
  rel := fun {k u} h => boolIs_eq h
  nk := fun k => rfl
  hash := fun k => rfl
  inj := fun {k j} e => b01_inj (by injection e)
end LW

set_option Elab.async false
set_option linter.all false
set_option maxRecDepth 100000
set_option maxHeartbeats 2000000
/-! LU: d[k], k in d, d.get, d[k] = v, d[k] op= v, del d[k], {}; a dict of ours becomes a datum. -/
namespace LW
open PySem PySem.Spec PyProof.Rows L2
/-- a kind of keys, and what sort they are -/
structure DK (X : Cx) (kd : D → Prop) : Prop extends DKey X kd where
  kt : ∃ t : KT, ∀ d, kd d → t.of d = true ∧ ∃ k, d.nk = some k ∧ k.depth ≤ 8
theorem dk_t {X : Cx} : DK X tKey := { dkey_t with kt := ⟨.t, fun _ h => h⟩ }
theorem dk_bool {X : Cx} : DK X (fun d => ∃ b, d = .bl b) := { dkey_x (kx_bool _ _) with kt := ⟨.b, fun d ⟨b, e⟩ => by subst e; exact ⟨rfl, _, rfl, Nat.zero_le _⟩⟩ }
theorem dk_int {X : Cx} : DK X (fun d => ∃ b, d = .int b) := { dkey_x (kx_int _ _) with kt := ⟨.i, fun d ⟨b, e⟩ => by subst e; exact ⟨rfl, _, rfl, Nat.zero_le _⟩⟩ }
theorem dk_str {X : Cx} : DK X (fun d => ∃ b, d = .str b) := { dkey_x (kx_str _ _) with kt := ⟨.s, fun d ⟨b, e⟩ => by subst e; exact ⟨rfl, _, rfl, Nat.zero_le _⟩⟩ }
section
variable {X : Cx} {kd : D → Prop}
theorem DK.dic {a : Addr} {kvs : List (D × D)} {dk dv : D} (K : DK X kd) (h : DicOk a kvs) (hk : ∀ p ∈ kvs, kd p.1) (hd : kd dk) (hl : kvs.length < sizeLine) : DicOk a (dput kvs dk dv) := by
  obtain ⟨t, ht⟩ := K.kt
  refine ⟨h.sys, Nat.le_trans dput_len hl, dput_nd h.nd, ⟨t, dput_all (Pr := fun d => t.of d = true) (fun p hp => (ht _ (hk p hp)).1) (ht _ hd).1⟩, fun p hp k e => ?_⟩
  obtain ⟨k', e', h'⟩ := dput_all (Pr := fun d => ∃ k, d.nk = some k ∧ k.depth ≤ 8) (v := dv) (fun p hp => (ht _ (hk p hp)).2) (ht _ hd).2 p hp
  rw [e] at e'
  cases e'
  exact h'
theorem ddel_mem {kvs : List (D × D)} {k : D} {p : D × D} (h : p ∈ ddel kvs k) : p ∈ kvs := (List.mem_filter.mp h).1
theorem DicOk.del {a : Addr} {kvs : List (D × D)} {dk : D} (h : DicOk a kvs) : DicOk a (ddel kvs dk) := by
  obtain ⟨t, ht⟩ := h.kind
  exact ⟨h.sys, Nat.le_trans (List.length_filter_le _ _) h.len, List.Sublist.nodup (List.Sublist.map _ List.filter_sublist) h.nd, ⟨t, fun p hp => ht p (ddel_mem hp)⟩, fun p hp => h.dep p (ddel_mem hp)⟩
/-! ### readings -/
def rDG (w : World) (kd : D → Prop) (y : V) (x : V) (H : Hp) (R : List (D × D) → D → Hp → Prop) : Prop := ∃ a L kvs G dk, x = .ref a ∧ DSt w G H a L kvs ∧ (∀ p ∈ kvs, kd p.1) ∧ kd dk ∧ Dt w G y dk ∧ R kvs dk G
theorem ix_dic (K : DK X kd) (hu : X.A.units + 20 < cLine) : IxR X (fun x y H Q => rDG X.w kd y x H fun kvs dk G => ∃ dv, dget kvs dk = some dv ∧ ∀ z, Dt X.w G z dv → Q z H) := by
  intro value slice pins s σ H x y v u Q I rx ry h hs
  obtain ⟨a, L, kvs, G, dk, rfl, d, hk, hd, ry', dv, hg, q⟩ := h
  cases rx
  obtain ⟨es, ep, raw, _⟩ := raw_of I d.rd
  exact tail_any raw.typeIs F.slot_dict_getitem.lookup (K.item hu I d hk hd ry' ry hg fun z w' s' I' rz rd => ⟨z, H, I', rz, q z rd⟩) hs
theorem op_din (K : DK X kd) (hu : X.A.units + 20 < cLine) : OpR X (compareOp .In) (fun y x H Q => rDG X.w kd y x H fun kvs dk G => Q (.bl (dget kvs dk).isSome) H) := by
  intro pins s σ H y x v u Q I ry rx h
  obtain ⟨a, L, kvs, G, dk, rfl, d, hk, hd, ry', q⟩ := h
  cases rx
  exact K.has hu I d hk hd ry' ry fun s' I' => ⟨.bl _, H, I', rfl, q⟩
theorem op_dnin (K : DK X kd) (hu : X.A.units + 20 < cLine) : OpR X (compareOp .NotIn) (fun y x H Q => rDG X.w kd y x H fun kvs dk G => Q (.bl (!(dget kvs dk).isSome)) H) := by
  intro pins s σ H y x v u Q I ry rx h
  obtain ⟨a, L, kvs, G, dk, rfl, d, hk, hd, ry', q⟩ := h
  cases rx
  exact K.hasnt hu I d hk hd ry' ry fun s' I' => ⟨.bl _, H, I', rfl, q⟩
theorem mt_dget (K : DK X kd) (hu : X.A.units + 20 < cLine) : MtR X "dict.get" (fun x us H Q => ∃ y z, ((us = [y] ∧ z = .non) ∨ us = [y, z]) ∧ rDG X.w kd y x H fun kvs dk G => (dget kvs dk = none → Q z H) ∧ ∀ dv t, dget kvs dk = some dv → Dt X.w G t dv → Q t H) := by
  intro pins s σ H x us v vs Q I rx rs h
  obtain ⟨y, z, hus, a, L, kvs, G, dk, rfl, d, hk, hd, ry', q1, q2⟩ := h
  cases rx
  have fin : ∀ x w' s', L2.Inv X pins σ H s' → RelV x w' → ((dget kvs dk = none ∧ x = z) ∨ ∃ dv, dget kvs dk = some dv ∧ Dt X.w G x dv) → EP X pins σ Q w' s' := fun x w' s' I' r hh => by
    rcases hh with ⟨e, rfl⟩ | ⟨dv, e, rd⟩
    · exact ⟨x, H, I', r, q1 e⟩
    · exact ⟨x, H, I', r, q2 dv x e rd⟩
  rcases hus with ⟨rfl, rfl⟩ | rfl
  · obtain ⟨ku, rfl, rk⟩ := vals1 rs
    exact K.get (z := .non) (r := .none) hu I d hk hd ry' rk (.inl ⟨rfl, rfl⟩) fin
  · obtain ⟨ku, du, rfl, rk, rd⟩ := vals2 rs
    exact K.get hu I d hk hd ry' rk (.inr ⟨rfl, rd⟩) fin
theorem set_dic (K : DK X kd) (hu : X.A.units + 20 < cLine) : PSet X (fun x y z H Q => ∃ a L kvs G dk dv, x = .ref a ∧ DSt X.w G H a L kvs ∧ (∀ p ∈ kvs, kd p.1) ∧ kd dk ∧ Dt X.w G y dk ∧ Dt X.w G z dv ∧ H a = some (dicO a L) ∧
    ∀ L', DtE X.w G L' (dput kvs dk dv) → Q (upd H a (dicO a L'))) := by
  intro pins s σ H o i v ov iv u Q I ro ri rv h
  obtain ⟨a, L, kvs, G, dk, dv, rfl, d, hk, hd, ry, rz, ha, q⟩ := h
  cases ro
  exact K.put hu I d hk hd ry ri ha rz rv fun L' s' hE I' => ⟨_, I', q L' hE⟩
end
section
variable {w : World} {T : List Addr} {G H : Hp} {M : Mem} {v : V} {d : D}
theorem DV.st {kvs : List (D × D)} (l : DV M d kvs) (hs : HS w T G H M) (r : Dt w G v d) : ∃ a L, v = .ref a ∧ DSt w G H a L kvs := by
  obtain ⟨a, L, e, h1, h2, h3⟩ := l.get hs r
  exact ⟨a, L, e, hs.sub, h1, h2, h3⟩
end
section
variable {X : Cx} {kd : D → Prop} {T : List Addr} {ρ ρ' : List (Option D)} {M M1 M2 M3 : Mem} {d da db dc dk dv : D} {a b c e o v : Expr} {es : List Expr} {pos tpos p apos : Pos} {kvs : List (D × D)} {R R' : D → Mem → Prop}
  {rest : List Stmt} {Nx : List (Option D) → Mem → Prop} {Rt : D → Mem → Prop}
/-- d[k] -/
theorem pd_dsub (K : DK X kd) (hu : X.A.units + 20 < cLine) (l : DV M2 da kvs) (hk : ∀ p ∈ kvs, kd p.1) (hd : kd dk) (hg : dget kvs dk = some d) (ha : PD X T ρ M a da M1) (hb : PD X T ρ M1 b dk M2) (hs : PlainIx b := by exact fun _ _ => rfl) : PD X T ρ M (.Subscript a b pos) d M2 :=
  pd_ix (ix_dic K hu) (fun G H v u Q hs r1 r2 k => by
    obtain ⟨q, L, rfl, ds⟩ := l.st hs r1
    exact ⟨q, L, kvs, G, dk, rfl, ds, hk, hd, r2, d, hg, fun z rz => k z G H (Step.refl _ _ _) hs rz⟩) ha hb hs
theorem ok_din {w : World} (l : DV M db kvs) (hk : ∀ p ∈ kvs, kd p.1) (hd : kd da) : OkR2 w T M (fun y x H Q => rDG w kd y x H fun kvs dk G => Q (.bl (dget kvs dk).isSome) H) da db (.bl (dget kvs da).isSome) := fun G H v u Q hs r1 r2 k => by
  obtain ⟨q, L, rfl, ds⟩ := l.st hs r2
  exact ⟨q, L, kvs, G, da, rfl, ds, hk, hd, r1, k _ G H (Step.refl _ _ _) hs (.bl _)⟩
theorem ok_dnin {w : World} (l : DV M db kvs) (hk : ∀ p ∈ kvs, kd p.1) (hd : kd da) : OkR2 w T M (fun y x H Q => rDG w kd y x H fun kvs dk G => Q (.bl (!(dget kvs dk).isSome)) H) da db (.bl (!(dget kvs da).isSome)) := fun G H v u Q hs r1 r2 k => by
  obtain ⟨q, L, rfl, ds⟩ := l.st hs r2
  exact ⟨q, L, kvs, G, da, rfl, ds, hk, hd, r1, k _ G H (Step.refl _ _ _) hs (.bl _)⟩
/-- k in d -/
theorem pd_din (K : DK X kd) (hu : X.A.units + 20 < cLine) (l : DV M2 db kvs) (hk : ∀ p ∈ kvs, kd p.1) (hd : kd da) (ha : PD X T ρ M a da M1) (hb : PD X T ρ M1 b db M2) (hm : behindInMarks .In b = false := by first | exact nomark _ | rfl | with_unfolding_all rfl) : PD X T ρ M (.Compare a [.In] [b] pos) (.bl (dget kvs da).isSome) M2 := pd_cmp (op_din K hu) (ok_din l hk hd) ha hb hm
theorem pdt_din (K : DK X kd) (hu : X.A.units + 20 < cLine) (l : DV M2 db kvs) (hk : ∀ p ∈ kvs, kd p.1) (hd : kd da) (ha : PD X T ρ M a da M1) (hb : PD X T ρ M1 b db M2) (hm : behindInMarks .In b = false := by first | exact nomark _ | rfl | with_unfolding_all rfl) : PDT X T ρ M (.Compare a [.In] [b] pos) (dget kvs da).isSome M2 := pdt_cmp (op_din K hu) (ok_din l hk hd) ha hb hm
theorem pd_dnin (K : DK X kd) (hu : X.A.units + 20 < cLine) (l : DV M2 db kvs) (hk : ∀ p ∈ kvs, kd p.1) (hd : kd da) (ha : PD X T ρ M a da M1) (hb : PD X T ρ M1 b db M2) (hm : behindInMarks .NotIn b = false := by first | exact nomark _ | rfl | with_unfolding_all rfl) : PD X T ρ M (.Compare a [.NotIn] [b] pos) (.bl (!(dget kvs da).isSome)) M2 := pd_cmp (op_dnin K hu) (ok_dnin l hk hd) ha hb hm
theorem pdt_dnin (K : DK X kd) (hu : X.A.units + 20 < cLine) (l : DV M2 db kvs) (hk : ∀ p ∈ kvs, kd p.1) (hd : kd da) (ha : PD X T ρ M a da M1) (hb : PD X T ρ M1 b db M2) (hm : behindInMarks .NotIn b = false := by first | exact nomark _ | rfl | with_unfolding_all rfl) : PDT X T ρ M (.Compare a [.NotIn] [b] pos) (!(dget kvs da).isSome) M2 := pdt_cmp (op_dnin K hu) (ok_dnin l hk hd) ha hb hm
/-- d.get(k, x) -/
theorem pd_dget2 {dk : D} (K : DK X kd) (hu : X.A.units + 20 < cLine) (l : DV M1 da kvs) (l2 : DV M3 da kvs) (hk : ∀ p ∈ kvs, kd p.1) (hd : kd dk) (ho : PD X T ρ M o da M1) (ha : PD X T ρ M1 e dk M2) (hb : PD X T ρ M2 b db M3)
    (hbase : attributeBase o "get" X.env (eval o X.env) = eval o X.env := by rfl)
    (hfew : ((backTo pos (starEach [e, b] X.env)).all (fun x => !x.1) && (backToKw pos (keywordEach [] X.env)).all (fun x => x.1.isSome)
      && decide ([e, b].length + ([] : List Keyword).length + (if ([] : List Keyword).isEmpty then 0 else 1) < 30)) = true := by rfl)
    (hline : (apos.endLine == pos.line) = true := by rfl) (hs : starEach [e, b] X.env = (false, eval e X.env) :: starEach [b] X.env := by rfl) (hs2 : starEach [b] X.env = (false, eval b X.env) :: starEach [] X.env := by rfl) (hpl : (backTo pos (starEach [b] X.env)).any (·.1) = false := by rfl) : PD X T ρ M (.Call (.Attribute o "get" apos) [e, b] [] pos) ((dget kvs dk).getD db) M3 := by
  refine pd_m F.plainAttrs_dict F.slot_dict_get rfl (mt_dget K hu) ho (pdl_cons ha (pdl_1 hb hs2) hs) l.ty (fun G H v us Q hs' r1 r2 k => ?_) hbase hfew hline hs hpl
  obtain ⟨u, u2, rfl, ru, ru2⟩ := r2.two
  obtain ⟨a, L, rfl, ds⟩ := l2.st hs' r1
  refine ⟨u, u2, .inr rfl, a, L, kvs, G, dk, rfl, ds, hk, hd, ru, fun e => ?_, fun d x e r => ?_⟩
  · exact k _ G H (Step.refl _ _ _) hs' (by rw [e]; exact ru2)
  · exact k _ G H (Step.refl _ _ _) hs' (by rw [e]; exact r)
/-- our dict is written -/
theorem dput_st {w : World} {G H : Hp} {q : Addr} {j : Nat} {L' : List (Int × V × V)} {kvs' : List (D × D)} (hs : HS w T G H M) (hj : M[j]? = some (some (q, .dic kvs))) (hE : DtE w G L' kvs') (ok : DicOk q kvs') :
    HS w T G (upd H q (dicO q L')) (M.set j (some (q, .dic kvs'))) ∧ Step G H M G (upd H q (dicO q L')) (M.set j (some (q, .dic kvs'))) :=
  hs.put (ob' := .dic kvs') (o := dicO q L') hj (fun _ z => by cases z) fun H' e' => ⟨L', e', hE, ok⟩
/-- d[k] = v, d ours -/
theorem pb_dput {q : Addr} {dk : D} (j : Nat) (K : DK X kd) (hu : X.A.units + 20 < cLine) (hv : PD X T ρ M v dv M1) (ho : PD X T ρ M1 o (.ref q) M2) (hi : PD X T ρ M2 e dk M3) (hj : M3[j]? = some (some (q, .dic kvs))) (hk : ∀ p ∈ kvs, kd p.1) (hd : kd dk) (hl : kvs.length < sizeLine) (k : PB X T ρ (M3.set j (some (q, .dic (dput kvs dk dv)))) rest Nx Rt)
    (hs : swapsWithSole [.Subscript o e p] v pos.line X.env = pure false := by rfl) (hw : swappedStores [.Subscript o e p] v X.env = pure none := by rfl) (h1 : (assignEach [.Subscript o e p] X.env).map (·.2) = [assign (.Subscript o e p) X.env] := by rfl)
    (ha : ∀ v, assign (.Subscript o e p) X.env v = (do
      let ov ← holding [v] (eval o X.env)
      let iv ← holding [v, ov] (eval e X.env)
      standAt p
      holding [v, ov, iv] (setItem ov iv v)
      release [v, ov, iv] []) := by intro _; rfl) : PB X T ρ M (.Assign [.Subscript o e p] v pos :: rest) Nx Rt := by
  refine pb_seq (Nx1 := fun ρ' m => ρ' = ρ ∧ m = M3.set j (some (q, .dic (dput kvs dk dv)))) (PS.imp (ps_asg hv (pg_sub ho hi (set_dic K hu) ha) hs hw h1) fun Dd σ H ⟨G, hs', sl, k1, k2⟩ => ?_) fun ρ' m ⟨e1, e2⟩ => by subst e1; subst e2; exact k
  refine ⟨G, hs', sl, fun x G1 H1 st1 hs1 rx => ⟨G1, hs1, sl.up st1.up, fun y G2 H2 st2 hs2 ry => ⟨G2, hs2, (sl.up st1.up).up st2.up, fun z G3 H3 st3 hs3 rz => ?_⟩⟩⟩
  cases ry
  obtain ⟨g3, L, e', hE, ok⟩ := hs3.mem q _ (mem_of hj)
  refine ⟨q, L, kvs, G3, dk, dv, rfl, ⟨hs3.sub, .inl e', hE, ok⟩, hk, hd, rz, (rx.up fun a o e => st3.up a o (st2.up a o e)), e', fun L' hE' => ?_⟩
  obtain ⟨a3, t3⟩ := dput_st hs3 hj hE' (K.dic ok hk hd hl)
  exact k1 σ G3 _ ρ _ ⟨rfl, rfl⟩ (((st1.trans st2).trans st3).trans t3) a3 (sl.up fun a o e => st3.up a o (st2.up a o (st1.up a o e)))
/-- d[k] op= v, d ours -/
theorem pb_daug {q : Addr} {dk : D} {op : Operator} {r : R2} (j : Nat) (K : DK X kd) (hu : X.A.units + 20 < cLine) (ho : PD X T ρ M o (.ref q) M) (hi : PD X T ρ M e dk M) (hv : PD X T ρ M v db M) (hj : M[j]? = some (some (q, .dic kvs))) (hk : ∀ p ∈ kvs, kd p.1) (hd : kd dk) (hl : kvs.length < sizeLine) (hg : dget kvs dk = some da)
    (hop : OpR X (inplaceOp op) r) (hr : OkR2 X.w T M r da db dc) (k : PB X T ρ (M.set j (some (q, .dic (dput kvs dk dc)))) rest Nx Rt)
    (ha : ∀ ov iv new, augStore e ov iv new = (do holding [new, ov, iv] (setItem ov iv new); release [new, ov, iv] []; pure .next) := by intro _ _ _; rfl) : PB X T ρ M (.AugAssign (.Subscript o e tpos) op v pos :: rest) Nx Rt := by
  refine pb_seq (Nx1 := fun ρ' m => ρ' = ρ ∧ m = M.set j (some (q, .dic (dput kvs dk dc)))) ⟨fun pins s σ H Dd I ⟨G, hs', sl, k1, k2⟩ => ?_⟩ fun ρ' m ⟨e1, e2⟩ => by subst e1; subst e2; exact k
  refine wpAny_AugAssign_SubscriptAny (thn (ho.run pins s σ H (fun x H1 => ∃ G1, Step G H M G1 H1 M ∧ HS X.w T G1 H1 M ∧ Dt X.w G1 x (.ref q)) I ⟨G, hs', sl, fun x G1 H1 st1 hs1 rx => ⟨G1, st1, hs1, rx⟩⟩) fun u s1 ⟨x, H1, I1, rx, G1, st1, hs1, dx⟩ =>
    thn (hi.run pins s1 σ H1 (fun x H2 => ∃ G2, Step G1 H1 M G2 H2 M ∧ HS X.w T G2 H2 M ∧ Dt X.w G2 x dk) I1 ⟨G1, hs1, sl.up st1.up, fun x G2 H2 st2 hs2 rx => ⟨G2, st2, hs2, rx⟩⟩) fun iv s2 ⟨y, H2, I2, ry, G2, st2, hs2, dy⟩ => ?_) ha
  cases dx
  obtain rfl : u = Value.ref q := rx
  obtain ⟨g3, L, e', hE, ok⟩ := hs2.mem q _ (mem_of hj)
  refine K.item hu I2 ⟨hs2.sub, .inl e', hE, ok⟩ hk hd dy ry hg fun z w' s3 I3 rz dz => ?_
  refine thn (hv.run pins s3 σ H2 (fun x H3 => ∃ G3, Step G2 H2 M G3 H3 M ∧ HS X.w T G3 H3 M ∧ Dt X.w G3 x db) I3 ⟨G2, hs2, (sl.up st1.up).up st2.up, fun x G3 H3 st3 hs3 rx => ⟨G3, st3, hs3, rx⟩⟩) fun w2 s4 ⟨y2, H3, I4, ry2, G3, st3, hs3, dy2⟩ => ?_
  refine thn (hop pins s4 σ H3 z y2 w' w2 (fun x H4 => ∃ G4, Step G3 H3 M G4 H4 M ∧ HS X.w T G4 H4 M ∧ Dt X.w G4 x dc) I4 rz ry2 (hr G3 H3 z y2 _ hs3 (dz.up st3.up) dy2 fun x G4 H4 st4 hs4 rx => ⟨G4, st4, hs4, rx⟩)) fun w3 s5 ⟨z2, H4, I5, rz2, G4, st4, hs4, dz2⟩ => ?_
  obtain ⟨g5, L5, e5, hE5, ok5⟩ := hs4.mem q _ (mem_of hj)
  refine K.toDKey.put hu I5 ⟨hs4.sub, .inl e5, hE5, ok5⟩ hk hd (dy.up fun a o e => st4.up a o (st3.up a o e)) ry e5 dz2 rz2 fun L' s6 hE' I6 => ?_
  obtain ⟨a6, t6⟩ := dput_st hs4 hj hE' (K.dic ok5 hk hd hl)
  have stt := (((st1.trans st2).trans st3).trans st4)
  exact ⟨σ, _, I6, k1 σ G4 _ ρ _ ⟨rfl, rfl⟩ (stt.trans t6) a6 (sl.up stt.up)⟩
/-- del d[k], d ours -/
theorem pb_ddel {q : Addr} {dk : D} (j : Nat) (K : DK X kd) (hu : X.A.units + 20 < cLine) (ho : PD X T ρ M o (.ref q) M1) (hi : PD X T ρ M1 e dk M2) (hj : M2[j]? = some (some (q, .dic kvs))) (hk : ∀ p ∈ kvs, kd p.1) (hd : kd dk) (hg : (dget kvs dk).isSome = true) (k : PB X T ρ (M2.set j (some (q, .dic (ddel kvs dk)))) rest Nx Rt) :
    PB X T ρ M (.Delete [.Subscript o e tpos] pos :: rest) Nx Rt := by
  refine pb_seq (Nx1 := fun ρ' m => ρ' = ρ ∧ m = M2.set j (some (q, .dic (ddel kvs dk)))) ⟨fun pins s σ H Dd I ⟨G, hs', sl, k1, k2⟩ => ?_⟩ fun ρ' m ⟨e1, e2⟩ => by subst e1; subst e2; exact k
  refine wpAny_Delete (wpAny_deleteEach_cons (wpAny_delete_Subscript (thn (ho.run pins s σ H (fun x H1 => ∃ G1, Step G H M G1 H1 M1 ∧ HS X.w T G1 H1 M1 ∧ Dt X.w G1 x (.ref q)) I ⟨G, hs', sl, fun x G1 H1 st1 hs1 rx => ⟨G1, st1, hs1, rx⟩⟩) fun u s1 ⟨x, H1, I1, rx, G1, st1, hs1, dx⟩ =>
    thn (hi.run pins s1 σ H1 (fun x H2 => ∃ G2, Step G1 H1 M1 G2 H2 M2 ∧ HS X.w T G2 H2 M2 ∧ Dt X.w G2 x dk) I1 ⟨G1, hs1, sl.up st1.up, fun x G2 H2 st2 hs2 rx => ⟨G2, st2, hs2, rx⟩⟩) fun iv s2 ⟨y, H2, I2, ry, G2, st2, hs2, dy⟩ => ?_)))
  cases dx
  obtain rfl : u = Value.ref q := rx
  obtain ⟨g3, L, e', hE, ok⟩ := hs2.mem q _ (mem_of hj)
  refine K.del hu I2 ⟨hs2.sub, .inl e', hE, ok⟩ hk hd dy ry e' hg fun L' s3 hE' I3 => ?_
  obtain ⟨a6, t6⟩ := dput_st hs2 hj hE' ok.del
  exact wpAny_deleteEach_nil ⟨σ, _, I3, k1 σ G2 _ ρ _ ⟨rfl, rfl⟩ ((st1.trans st2).trans t6) a6 (sl.up (st1.trans st2).up)⟩
/-- {} -/
theorem dicOk_nil {q : Addr} (h : (q == sysModules) = false) : DicOk q [] := ⟨h, Nat.zero_le _, List.nodup_nil, ⟨.i, fun _ h => by cases h⟩, fun _ h => by cases h⟩
theorem pdr_dnew : PDR X T ρ M (.Dict [] [] pos) (fun d m => ∃ q, d = .ref q ∧ m = M ++ [some (q, .dic [])]) :=
  ⟨fun pins s σ H Q I ⟨G, hs, sl, k⟩ => by
    obtain ⟨L, ob, hE, gob, hok⟩ := to_dicH (P := X.prog) (w := X.w) (G := G) (Heap.DictOfH.new (knd := nestedKind X.prog X.w) s.heap) .nil
    have hn := I.hok.fresh (Nat.le_refl s.heap.objs.size)
    obtain ⟨a6, t6⟩ := hs.own (p := s.heap.objs.size) (ob := .dic []) (o := dicO s.heap.objs.size L) hn (fun _ z => by cases z) fun H' e' => ⟨L, e', hE, dicOk_nil I.notMod⟩
    exact wpAny_Dict_empty ⟨.ref s.heap.objs.size, _, I.laid (a := s.heap.objs.size) (o := dicO s.heap.objs.size L) (t' := s.toks) (fun _ _ q => Heap.get?_push_of_some _ q) (Nat.le_refl _) (hok _), rfl, k _ G _ _ _ ⟨_, rfl, rfl⟩ t6 a6 (.ref _)⟩⟩
/-- ours no more -/
theorem HS.lock {w : World} {G H : Hp} {j : Nat} {q : Addr} {ob : Ob} {o : HO} (s : HS w T G H M) (h : M[j]? = some (some (q, ob))) (nt : ∀ ps, o ≠ .tbl ps) :
    HS w T (upd G q o) (upd H q o) (M.set j none) ∧ Step G H M (upd G q o) (upd H q o) (M.set j none) := by
  have e0 := s.mem q ob (mem_of h)
  obtain ⟨u, hu, _, nt0, _⟩ := e0.2.there
  have s1 := s.perm (at_perm h)
  have nd := s1.nd
  have e1 : adr ([some (q, ob)] ++ M.eraseIdx j) = q :: adr (M.eraseIdx j) := rfl
  have e2 : adr ([none] ++ M.eraseIdx j) = adr (M.eraseIdx j) := rfl
  rw [e1, List.nodup_cons] at nd
  have a2 : HS w T (upd G q o) (upd H q o) ([none] ++ M.eraseIdx j) := by
    refine ⟨fun a x e => ?_, fun a ps e => ?_, by rw [e2]; exact nd.2, fun p ob2 hp => ?_, fun P hP => TabG.upd (s.tab P hP) fun ps z => nt0 ps (by rw [hu] at z; exact Option.some.inj z)⟩
    · by_cases z : a = q
      · subst z
        rw [upd_same] at e ⊢
        exact e
      · rw [upd_ne z] at e ⊢
        exact s.sub a x e
    · by_cases z : a = q
      · subst z
        rw [upd_same] at e
        exact nt ps (Option.some.inj e)
      · rw [upd_ne z] at e
        exact s.pur a ps e
    · rcases List.mem_append.mp hp with z | z
      · cases List.mem_singleton.mp z
      · obtain ⟨h1, h2⟩ := s1.mem p ob2 (List.mem_append_right _ z)
        have nq : p ≠ q := fun y => nd.1 (y ▸ adr_mem z)
        exact ⟨by rw [upd_ne nq]; exact h1, h2.mono (up_upd e0.1) (upd_ne nq)⟩
  have t2 : Step G H ([some (q, ob)] ++ M.eraseIdx j) (upd G q o) (upd H q o) ([none] ++ M.eraseIdx j) := by
    refine ⟨up_upd e0.1, fun a x e => ?_, fun a x e n => ?_, fun a h => .inl ?_⟩
    · by_cases z : a = q
      · subst z
        exact .inr (.inr (by rw [e1]; exact List.mem_cons_self))
      · rw [upd_ne z] at e
        exact .inl e
    · rw [upd_ne fun z => n (by rw [z, e1]; exact List.mem_cons_self)]
      exact .inl e
    · rw [e2] at h
      rw [e1]
      exact List.mem_cons_of_mem _ h
  exact ⟨a2.perm (set_perm h _), (t2.permL (at_perm h).symm).permR (set_perm h _)⟩
theorem pdr_freezeD (h : PDR X T ρ M e R) (k : ∀ d m, R d m → ∃ q kvs, d = .ref q ∧ m = M1 ++ [some (q, .dic kvs)] ∧ R' (.dic kvs) M1) : PDR X T ρ M e R' :=
  ⟨fun pins s σ H Q I ⟨G, hs, sl, kk⟩ => by
    refine thn (h.run pins s σ H (fun v H' => ∃ G' d m, R d m ∧ Step G H M G' H' m ∧ HS X.w T G' H' m ∧ Dt X.w G' v d) I ⟨G, hs, sl, fun v G' H' d m r st hs' rd => ⟨G', d, m, r, st, hs', rd⟩⟩) fun u s1 ⟨x, H1, I1, rx, G1, d, m, r, st, hs1, rd⟩ => ?_
    obtain ⟨q, kvs, rfl, rfl, hR⟩ := k d m r
    have hj : (M1 ++ [some (q, Ob.dic kvs)])[M1.length]? = some (some (q, .dic kvs)) := by
      rw [List.getElem?_append_right (Nat.le_refl _), Nat.sub_self]
      rfl
    obtain ⟨g0, L, e', hE, ok⟩ := hs1.mem q _ (mem_of hj)
    obtain ⟨od, I2⟩ := I1.lock e' trivial
    obtain ⟨a6, t6⟩ := hs1.lock (o := .frz od (dicO q L)) hj fun _ z => by cases z
    have hset : (M1 ++ [some (q, Ob.dic kvs)]).set M1.length none = M1 ++ [none] := by
      rw [List.set_append_right _ _ (Nat.le_refl _), Nat.sub_self]
      rfl
    rw [hset] at a6 t6
    have t7 := st.trans t6
    cases rd
    exact ⟨.ref q, _, I2, rx, kk _ _ _ _ _ hR ⟨t7.up, t7.new, t7.keep, fun a h => t7.adr_ a (by rw [adr_app]; exact List.mem_append_left _ h)⟩ a6.left (.dic upd_same (hE.up (up_upd g0)) ok)⟩⟩
end
end LW

set_option Elab.async false
set_option linter.all false
set_option maxRecDepth 100000
set_option maxHeartbeats 2000000
/-! LV: walks over a dict's keys and values; d == {}; list(d). -/
namespace LW
open PySem PySem.Spec PyProof.Rows L2
def Itk' (d : Addr) (ob : Obj) (L : List (Int × V × V)) : It :=
  ⟨fun i H => H d = some (.frz ob (dicO d L)) ∧ i < L.length, fun i H v H' => ∃ z, L[i]? = some z ∧ v = z.2.1 ∧ H' = H, fun i H => H d = some (.frz ob (dicO d L)) ∧ i = L.length⟩
def Itv' (d : Addr) (ob : Obj) (L : List (Int × V × V)) : It :=
  ⟨fun i H => H d = some (.frz ob (dicO d L)) ∧ i < L.length, fun i H v H' => ∃ z, L[i]? = some z ∧ v = z.2.2 ∧ H' = H, fun i H => H d = some (.frz ob (dicO d L)) ∧ i = L.length⟩
section
variable {P : Program} {w : World} {K : PySem.W.Frag} {d : Addr} {ob : Obj} {es : Array DictEntry} {ep : Nat} {tg : Expr}
theorem turn_k' {L : List (Int × V × V)} (it : Addr) (hod : ob.data = .dict es ep) : Turn P w K tg (Itk' d ob L) [it] it (fun i h => h.IsKeyIter it d i es.size ep) where
  mem := by simp
  obj := fun i h st b hb => by
    have e : b = it := by simpa using hb
    subst e
    obtain ⟨oi, e, c, dd⟩ := st
    exact ⟨oi, e, fun v z => by rw [dd] at z; cases z⟩
  keep := fun i h h' st k => st.at fun oi e => k it (by simp) oi e
  item := by
    intro X hP hw hK hc i pins s σ H E I hf st hg
    subst hP hw hK
    obtain ⟨hd, hi⟩ := hg
    obtain ⟨f0, f1, f2, f3, f4, f5⟩ := hf it (by simp)
    obtain ⟨raw, hsz, pr⟩ := raw_frz I hd hod
    have hi' : i < es.size := by rw [hsz]; exact hi
    obtain ⟨z, hz, h1, h2, h3⟩ := Paired.at_ pr (i := i) (y := es[i]) (by rw [Array.getElem?_toList]; exact Array.getElem?_eq_getElem hi')
    refine wpAny_pyNext_keys_item_raw st raw hi' fun h' st' sb => ?_
    have I1 : L2.Inv X pins σ H { s with heap := h' } := I.turned (t' := s.toks) (fun b ob hb e => (sb.2 b hb).trans e) f0 f1 f3 f4 f5
    obtain ⟨oi, e, c, dd⟩ := id st'
    exact ⟨es[i].key, rfl, go_of (s := { s with heap := h' }) e c dd (by decide) ⟨z.2.1, H, I1, h2, ⟨z, hz, rfl, rfl⟩, st', fun b hb => (hf b hb).1⟩⟩
  done := by
    intro X hP hw hK hc i pins s σ H E I hf st hg
    subst hP hw hK
    obtain ⟨hd, hi⟩ := hg
    obtain ⟨f0, f1, f2, f3, f4, f5⟩ := hf it (by simp)
    obtain ⟨raw, hsz, pr⟩ := raw_frz I hd hod
    exact wpAny_pyNext_keys_end_raw (I.ok.hd hc) st raw (by rw [hsz, hi]; exact Nat.le_refl _) fun h' eb => ⟨rfl, I.turned (t' := s.toks) (fun b ob hb e => eb b ob hb e) f0 f1 f3 f4 f5⟩
  self := fun A i s Q E st h => wpAny_pyIter_keyiter st h
theorem turn_v' {L : List (Int × V × V)} (it : Addr) (hod : ob.data = .dict es ep) : Turn P w K tg (Itv' d ob L) [it] it (fun i h => h.IsValIter it d i es.size ep) where
  mem := by simp
  obj := fun i h st b hb => by
    have e : b = it := by simpa using hb
    subst e
    obtain ⟨oi, e, c, dd⟩ := st
    exact ⟨oi, e, fun v z => by rw [dd] at z; cases z⟩
  keep := fun i h h' st k => st.at fun oi e => k it (by simp) oi e
  item := by
    intro X hP hw hK hc i pins s σ H E I hf st hg
    subst hP hw hK
    obtain ⟨hd, hi⟩ := hg
    obtain ⟨f0, f1, f2, f3, f4, f5⟩ := hf it (by simp)
    obtain ⟨raw, hsz, pr⟩ := raw_frz I hd hod
    have hi' : i < es.size := by rw [hsz]; exact hi
    obtain ⟨z, hz, h1, h2, h3⟩ := Paired.at_ pr (i := i) (y := es[i]) (by rw [Array.getElem?_toList]; exact Array.getElem?_eq_getElem hi')
    refine wpAny_pyNext_values_item_raw st raw hi' fun h' st' sb => ?_
    have I1 : L2.Inv X pins σ H { s with heap := h' } := I.turned (t' := s.toks) (fun b ob hb e => (sb.2 b hb).trans e) f0 f1 f3 f4 f5
    obtain ⟨oi, e, c, dd⟩ := id st'
    exact ⟨es[i].val, rfl, go_of (s := { s with heap := h' }) e c dd (by decide) ⟨z.2.2, H, I1, h3, ⟨z, hz, rfl, rfl⟩, st', fun b hb => (hf b hb).1⟩⟩
  done := by
    intro X hP hw hK hc i pins s σ H E I hf st hg
    subst hP hw hK
    obtain ⟨hd, hi⟩ := hg
    obtain ⟨f0, f1, f2, f3, f4, f5⟩ := hf it (by simp)
    obtain ⟨raw, hsz, pr⟩ := raw_frz I hd hod
    exact wpAny_pyNext_values_end_raw (I.ok.hd hc) st raw (by rw [hsz, hi]; exact Nat.le_refl _) fun h' eb => ⟨rfl, I.turned (t' := s.toks) (fun b ob hb e => eb b ob hb e) f0 f1 f3 f4 f5⟩
  self := fun A i s Q E st h => wpAny_pyIter_valiter st h
end
section
variable {X : Cx} {T : List Addr} {ρ : List (Option D)} {M M1 M2 M3 : Mem} {d da db : D} {a b c e o tg : Expr} {pos p p2 apos cpos tpos : Pos} {ds : List D} {kvs : List (D × D)}
theorem frz_dat {pins : List (Addr × Obj)} {σ : L2.St} {H : Hp} {s : Shared} {q : Addr} {ob : Obj} {L : List (Int × V × V)} (I : L2.Inv X pins σ H s) (hd : H q = some (.frz ob (dicO q L))) : ∃ es ep, s.heap.DictRaw q es ep ∧ es.size = L.length ∧ ob.data = .dict es ep := by
  obtain ⟨es, ep, raw, hsz, pr⟩ := raw_of I (.inr ⟨_, hd⟩)
  refine ⟨es, ep, raw, hsz, ?_⟩
  obtain ⟨g, _⟩ := I.hok q _ hd
  obtain ⟨o, g', _, dd⟩ := raw
  rw [g] at g'
  cases g'
  exact dd
theorem pi_key' {td : TE} (he : PE X e td) : PI X tg e (fun σ H R => td σ H fun x H1 => ∃ d ob L, x = .ref d ∧ (d == sysModules) = false ∧ H1 d = some (.frz ob (dicO d L)) ∧ R (Itk' d ob L) H1) := by
  refine ⟨fun pins s σ H R I h => ?_⟩
  refine thn (he.run pins s σ H _ I h) fun u s1 ⟨x, H1, I1, rx, d, ob, L, ex, hs, hd, q⟩ => ?_
  subst ex
  obtain rfl : u = Value.ref d := rx
  obtain ⟨es, ep, raw, hsz, hod⟩ := frz_dat I1 hd
  exact wpAny_pyIter_dict_raw hs raw (pi_one (tk := s1.toks) I1 _ (turn_k' _ hod) ⟨_, Heap.get?_push_size _ rfl, rfl, rfl⟩ q)
theorem pi_val' {td : TE} (he : PE X e td) (hbase : attributeBase e "values" X.env (eval e X.env) = eval e X.env := by rfl) (hline : (apos.endLine == cpos.line) = true := by rfl) :
    PI X tg (.Call (.Attribute e "values" apos) [] [] cpos) (fun σ H R => td σ H fun x H1 => ∃ d ob L, x = .ref d ∧ (d == sysModules) = false ∧ H1 d = some (.frz ob (dicO d L)) ∧ R (Itv' d ob L) H1) := by
  refine ⟨fun pins s σ H R I h => ?_⟩
  refine wpAny_Call_method (T := "dict") (id := "dict.values") hbase rfl hline F.plainAttrs_dict F.slot_dict_values F.type_dict_values (thn (he.run pins s σ H _ I h) fun u s1 ⟨x, H1, I1, rx, d, ob, L, ex, hs, hd, q⟩ => ?_)
  subst ex
  obtain rfl : u = Value.ref d := rx
  obtain ⟨es, ep, raw, hsz, hod⟩ := frz_dat I1 hd
  refine ⟨raw.typeIs, fun b e => ?_, ?_⟩
  · cases e
    obtain ⟨o, g', c, _⟩ := raw
    exact ⟨o, g', c.2.1⟩
  have I2 : L2.Inv X pins σ H1 { s1 with heap := s1.heap.push { cls := .type "dict_values", data := .fields #[.ref d] } } := I1.kept (t' := s1.toks) fun b ob q => Heap.get?_push_of_some _ q
  have fin : wpAny (model X.prog X.w) X.A (pyIter (.ref s1.heap.objs.size)) (PIE X pins σ tg R) X.xe { s1 with heap := s1.heap.push { cls := .type "dict_values", data := .fields #[.ref d] } } :=
    wpAny_pyIter_values_raw (d := d) ⟨_, Heap.get?_push_size _ rfl, rfl, rfl⟩ (raw.push _) (pi_one (tk := s1.toks) I2 _ (turn_v' _ hod) ⟨_, Heap.get?_push_size _ rfl, rfl, rfl⟩ q)
  show wpAny _ _ (callWith cpos (.builtin "dict.values") [.ref d] [] []) _ X.xe s1
  exact method_meetsIn F.slot_dict_values F.entry_dict_values rfl (PySem.evalArgs_none ⟨rfl, raw.typeIs, F.args_dict_values_1 _, _, meets_dict_values_raw d hs, ⟨es, ep, raw⟩, fin⟩)
/-- for k in d -/
theorem pdi_keys (h : PD X T ρ M e (.dic kvs) M1) : PDI X T ρ M tg e (kvs.map (·.1)) M1 (fun _ => True) :=
  (pi_key' h).imp fun σ H R ⟨G, hs, sl, k⟩ => ⟨G, hs, sl, fun v G1 H1 st hs1 r => by
    cases r with
    | dic eg hE hD =>
      rename_i a ob L
      refine ⟨a, ob, L, rfl, hD.sys, hs1.sub _ _ eg, k _ G1 H1 st hs1 ⟨fun i G2 H2 M2 hi st2 hs2 _ => ?_, fun i G2 H2 M2 x H' d st2 hs2 _ hd hy => ?_, fun G2 H2 M2 st2 hs2 _ => ?_⟩⟩
      · exact ⟨hs2.sub _ _ (st2.up _ _ eg), by rw [hE.length]; simpa using hi⟩
      · obtain ⟨z, hz, rfl, rfl⟩ := hy
        rw [List.getElem?_map] at hd
        cases e1 : kvs[i]? with
        | none => rw [e1] at hd; cases hd
        | some p =>
          rw [e1] at hd
          cases hd
          obtain ⟨z', hz', r1, r2⟩ := hE.get e1
          rw [hz] at hz'
          cases hz'
          exact ⟨G2, Step.refl _ _ _, hs2, r1.up fun a o e => st2.up a o e⟩
      · exact ⟨hs2.sub _ _ (st2.up _ _ eg), by rw [List.length_map, hE.length]⟩⟩
/-- for v in d.values() -/
theorem pdi_values (h : PD X T ρ M e (.dic kvs) M1) (hbase : attributeBase e "values" X.env (eval e X.env) = eval e X.env := by rfl) (hline : (apos.endLine == cpos.line) = true := by rfl) :
    PDI X T ρ M tg (.Call (.Attribute e "values" apos) [] [] cpos) (kvs.map (·.2)) M1 (fun _ => True) :=
  (pi_val' h hbase hline).imp fun σ H R ⟨G, hs, sl, k⟩ => ⟨G, hs, sl, fun v G1 H1 st hs1 r => by
    cases r with
    | dic eg hE hD =>
      rename_i a ob L
      refine ⟨a, ob, L, rfl, hD.sys, hs1.sub _ _ eg, k _ G1 H1 st hs1 ⟨fun i G2 H2 M2 hi st2 hs2 _ => ?_, fun i G2 H2 M2 x H' d st2 hs2 _ hd hy => ?_, fun G2 H2 M2 st2 hs2 _ => ?_⟩⟩
      · exact ⟨hs2.sub _ _ (st2.up _ _ eg), by rw [hE.length]; simpa using hi⟩
      · obtain ⟨z, hz, rfl, rfl⟩ := hy
        rw [List.getElem?_map] at hd
        cases e1 : kvs[i]? with
        | none => rw [e1] at hd; cases hd
        | some p =>
          rw [e1] at hd
          cases hd
          obtain ⟨z', hz', r1, r2⟩ := hE.get e1
          rw [hz] at hz'
          cases hz'
          exact ⟨G2, Step.refl _ _ _, hs2, r2.up fun a o e => st2.up a o e⟩
      · exact ⟨hs2.sub _ _ (st2.up _ _ eg), by rw [List.length_map, hE.length]⟩⟩
/-! ### d == {} -/
theorem same_empty {prog : Program} {w : World} {A : Around} {E : Value → Shared → Prop} {s : Shared} {nm : String} {a b : Addr} {es es' : Array DictEntry} {ep ep' : Nat} {Q : Bool → Shared → Prop} (ha : (a == sysModules) = false) (hb : (b == sysModules) = false)
    (da : s.heap.DictRaw a es ep) (db : s.heap.DictRaw b es' ep') (h0 : es'.size = 0) (h : Q (decide (es.size = 0)) s) :
    wpAny (model prog w) A (Builtin.Dict.samePairs nm a b) Q E s := by
  obtain ⟨oa, hoa, _, hda⟩ := da
  obtain ⟨ob, hob, _, hdb⟩ := db
  unfold Builtin.Dict.samePairs Builtin.Dict.showsAll
  rw [if_neg (show ¬ (a == sysModules) = true by rw [ha]; exact Bool.false_ne_true), if_neg (show ¬ (b == sysModules) = true by rw [hb]; exact Bool.false_ne_true)]
  refine wpAny_bind (wpAny_pure (wpAny_bind (wpAny_pure ?_)))
  refine wpAny_bind (wpAny_dictEntries hoa hda ?_)
  dsimp only
  refine wpAny_bind (wpAny_dictEntries hob hdb ?_)
  by_cases hsz : es.size = es'.size
  case neg =>
    rw [if_pos (by simpa using hsz)]
    rw [decide_eq_false (by omega)] at h
    exact wpAny_bind (wpAny_rule (wpAny_pure h))
  case pos =>
    have hz : es.size = 0 := by omega
    rw [decide_eq_true hz] at h
    rw [if_neg (by rw [hsz]; simp)]
    refine wpAny_bind (wpAny_dictEpoch hoa hda ?_)
    refine wpAny_bind ?_
    rw [Std.Legacy.Range.forIn_eq_forIn_range']
    simp only [Std.Legacy.Range.size, Nat.sub_zero, Nat.add_sub_cancel, Nat.div_one, hz, List.range'_zero]
    exact wpAny_pure (wpAny_pure h)
def rE0 (g : Bool → Bool) : R2 := fun x y H Q => ∃ a L b, x = .ref a ∧ y = .ref b ∧ (a == sysModules) = false ∧ (b == sysModules) = false ∧ Rd H a (dicO a L) ∧ Rd H b (dicO b []) ∧ Q (.bl (g (decide (L.length = 0)))) H
theorem op_eq0 (hu : X.A.units < cLine) : OpR X (compareOp .Eq) (rE0 fun b => b) := by
  intro pins s σ H x y v u Q I rx ry h
  obtain ⟨a, L, b, rfl, rfl, ha, hb, ra, rb, q⟩ := h
  obtain rfl : v = Value.ref a := rx
  obtain rfl : u = Value.ref b := ry
  obtain ⟨es, ep, da, hsz, _⟩ := raw_of I ra
  obtain ⟨es', ep', db, hsz', _⟩ := raw_of I rb
  have hsz' : es'.size = 0 := hsz'
  rw [← hsz] at q
  refine wpAny_richCompare_same_room (op := .Eq) da.typeIs db.typeIs PySem.F.slot_dict_eq (wpAny_call_entry PySem.F.slot_dict_eq da.typeIs PySem.F.entry_dict_eq ?_ (PySem.F.args_dict_eq_2 _ _)) hu
  show wpAny _ _ (Builtin.Dict.dictSlotArgs "__eq__" ⟨[.ref a, .ref b], []⟩ >>= _) _ _ s
  refine wpAny_bind ?_
  unfold Builtin.Dict.dictSlotArgs
  refine wpAny_bind (wpAny_notOrdered_dict da.typeIs ?_)
  show wpAny _ _ (pure (Value.ref a, Value.ref b)) _ _ s
  refine wpAny_pure ?_
  refine wpAny_bind (wpAny_isInstance (T := "dict") db.typeIs PySem.F.sub_dict_dict ?_)
  simp only [Bool.not_true, Bool.false_eq_true, if_false]
  refine wpAny_bind (wpAny_pure (wpAny_bind (wpAny_pure ?_)))
  refine wpAny_bind (same_empty ha hb da db hsz' ?_)
  refine wpAny_pure ⟨_, rfl, ?_, ?_⟩
  · exact fun x => nomatch x
  · exact ⟨.bl (decide (es.size = 0)), H, I, by simp [L2.RelV], q⟩
theorem op_ne0 (hu : X.A.units < cLine) : OpR X (compareOp .NotEq) (rE0 fun b => !b) := by
  intro pins s σ H x y v u Q I rx ry h
  obtain ⟨a, L, b, rfl, rfl, ha, hb, ra, rb, q⟩ := h
  obtain rfl : v = Value.ref a := rx
  obtain rfl : u = Value.ref b := ry
  obtain ⟨es, ep, da, hsz, _⟩ := raw_of I ra
  obtain ⟨es', ep', db, hsz', _⟩ := raw_of I rb
  have hsz' : es'.size = 0 := hsz'
  rw [← hsz] at q
  refine wpAny_richCompare_same_room (op := .NotEq) da.typeIs db.typeIs PySem.F.slot_dict_ne (wpAny_call_entry PySem.F.slot_dict_ne da.typeIs PySem.F.entry_dict_ne ?_ (PySem.F.args_dict_ne_2 _ _)) hu
  show wpAny _ _ (Builtin.Dict.dictSlotArgs "__ne__" ⟨[.ref a, .ref b], []⟩ >>= _) _ _ s
  refine wpAny_bind ?_
  unfold Builtin.Dict.dictSlotArgs
  refine wpAny_bind (wpAny_notOrdered_dict da.typeIs ?_)
  show wpAny _ _ (pure (Value.ref a, Value.ref b)) _ _ s
  refine wpAny_pure ?_
  refine wpAny_bind (wpAny_isInstance (T := "dict") db.typeIs PySem.F.sub_dict_dict ?_)
  simp only [Bool.not_true, Bool.false_eq_true, if_false]
  refine wpAny_bind (wpAny_pure (wpAny_bind (wpAny_pure ?_)))
  refine wpAny_bind (same_empty ha hb da db hsz' ?_)
  refine wpAny_pure ⟨_, rfl, ?_, ?_⟩
  · exact fun x => nomatch x
  · exact ⟨.bl (!decide (es.size = 0)), H, I, by simp [L2.RelV], q⟩
theorem ok_E0 {w : World} {g : Bool → Bool} (l : DV M da kvs) : OkR2 w T M (rE0 g) da (.dic []) (.bl (g (decide (kvs.length = 0)))) := fun G H v u Q hs r1 r2 k => by
  obtain ⟨q, L, rfl, ds⟩ := l.st hs r1
  obtain ⟨q2, L2, rfl, ds2⟩ := (DV.dat (M := M) (kvs := [])).st hs r2
  have e : L2 = [] := by have := ds2.ent; cases this; rfl
  subst e
  refine ⟨q, L, q2, rfl, rfl, ds.ok.sys, ds2.ok.sys, ds.rd, ds2.rd, ?_⟩
  rw [ds.ent.length]
  exact k _ G H (Step.refl _ _ _) hs (.bl _)
/-- {}, a datum -/
theorem pd_dnew0 : PD X T ρ M (.Dict [] [] pos) (.dic []) M :=
  pd_ofR (pdr_freezeD (R' := fun d m => d = .dic [] ∧ m = M) (M1 := M) pdr_dnew fun d m ⟨q, e1, e2⟩ => ⟨q, [], e1, e2, rfl, rfl⟩) fun d m h => h
theorem pdt_ne0 (hu : X.A.units < cLine) (l : DV M1 da kvs) (ha : PD X T ρ M a da M1) : PDT X T ρ M (.Compare a [.NotEq] [.Dict [] [] p2] pos) (!decide (kvs.length = 0)) M1 := pdt_cmp (op_ne0 hu) (ok_E0 l) ha pd_dnew0
theorem pd_ne0 (hu : X.A.units < cLine) (l : DV M1 da kvs) (ha : PD X T ρ M a da M1) : PD X T ρ M (.Compare a [.NotEq] [.Dict [] [] p2] pos) (.bl (!decide (kvs.length = 0))) M1 := pd_cmp (op_ne0 hu) (ok_E0 l) ha pd_dnew0
theorem pdt_eq0 (hu : X.A.units < cLine) (l : DV M1 da kvs) (ha : PD X T ρ M a da M1) : PDT X T ρ M (.Compare a [.Eq] [.Dict [] [] p2] pos) (decide (kvs.length = 0)) M1 := pdt_cmp (op_eq0 hu) (ok_E0 l) ha pd_dnew0
/-! ### list(d) -/
theorem call_listD (hc : X.calm = true) : CallR X (.type "list") (fun vs H Q => ∃ (a : Addr) (L : List (Int × V × V)), vs = [.ref a] ∧ (a == sysModules) = false ∧ Rd H a (dicO a L) ∧ L.length ≤ sizeLine ∧ ∀ q, H q = none → Q (.ref q) (upd H q (.lst (L.map fun z => z.2.1)))) := by
  intro pins s σ H vs us Q I rs ⟨a, L, e, hs, hR, hl, k⟩
  subst e
  obtain ⟨u, rfl, ru⟩ := vals1 rs
  cases ru
  obtain ⟨es, ep, raw, hsz, pr⟩ := raw_of I hR
  refine PySem.W.kdl_call (PySem.KdlSrc.rawDict (es := es) (ep := ep) hs) (I.ok.hd hc) raw (by rw [hsz]; exact hl) fun h' tk acc c hk hS hacc => ?_
  have hacc' : acc.toList = es.toList.map (·.key) := by
    refine List.ext_getElem? fun j => ?_
    rw [List.getElem?_map]
    by_cases hj : j < es.size
    · have hja : j < acc.size := by rw [hacc.1]; exact hj
      obtain ⟨hi, e⟩ := hacc.2 j acc[j] (Array.getElem?_eq_getElem hja)
      rw [Array.getElem?_toList, Array.getElem?_toList, Array.getElem?_eq_getElem hja, Array.getElem?_eq_getElem hj, e]
      rfl
    · rw [List.getElem?_eq_none (by rw [Array.length_toList, hacc.1]; omega), List.getElem?_eq_none (by rw [Array.length_toList]; omega)]
      rfl
  have hv : Vals (L.map fun z => z.2.1) acc.toList := by rw [hacc']; exact vals_keys pr
  refine ⟨.ref _, _, I.laid (o := .lst (L.map fun z => z.2.1)) (t' := tk) hk (Nat.le_refl _) ⟨by rw [List.length_map]; exact hl, acc.toList, c, hv, by rw [Array.toArray_toList]; exact hS⟩, rfl, k _ (I.hok.fresh (Nat.le_refl _))⟩
theorem pd_listD (l : DV M1 da kvs) (hm : X.mg "list" = none) (ha : PD X T ρ M a da M1) (hc : X.calm = true := by rfl) (hg : Gl X "list" := by rfl) (he : starEach [a] X.env = (false, eval a X.env) :: starEach [] X.env := by rfl) :
    PD X T ρ M (.Call (.Name "list" p) [a] [] pos) (.lst (kvs.map (·.1))) M1 :=
  pd_callT (call_listD hc) (fun G H vs Q hs r k => by
    obtain ⟨v, rfl, rr⟩ := r.one
    obtain ⟨q, L, rfl, ds⟩ := l.st hs rr
    exact ⟨q, L, rfl, ds.ok.sys, ds.rd, by rw [ds.ent.length]; exact ds.ok.len, fun q' hq => k _ _ _ (Step.newI hs hq) (hs.new hq fun _ z => by cases z) (.lst upd_same (ds.ent.keys.up (up_upd (hs.freshG hq))))⟩) hm (by decide +kernel) (pdl_1 ha he) hg (by decide) (by decide) he
end
end LW

set_option Elab.async false
set_option linter.all false
set_option maxRecDepth 100000
set_option maxHeartbeats 2000000
/-! LY: sorted(d.items()), list(d.items()). -/
namespace LW
open PySem PySem.Spec PyProof.Rows L2 L2.DX
/-- new tuples at their addresses -/
def putT : Hp → List Addr → List (Int × V × V) → Hp
  | H, a :: as, z :: L => putT (upd H a (.tup [z.2.1, z.2.2])) as L
  | H, _, _ => H
theorem putT_off {b : Addr} : ∀ (as : List Addr) (L : List (Int × V × V)) (H : Hp), b ∉ as → putT H as L b = H b
  | [], _, _, _ => rfl
  | _ :: _, [], _, _ => rfl
  | a :: as, z :: L, H, h => by
    show putT (upd H a _) as L b = H b
    rw [putT_off as L _ (fun z => h (List.mem_cons_of_mem _ z)), upd_ne (fun z => h (by rw [z]; exact List.mem_cons_self))]
theorem putT_at : ∀ (as : List Addr) (L : List (Int × V × V)) (H : Hp), as.length = L.length → as.Nodup → ∀ (j : Nat) (t : Addr) (z : Int × V × V), as[j]? = some t → L[j]? = some z → putT H as L t = some (.tup [z.2.1, z.2.2])
  | [], _, _, _, _, _, _, _, h, _ => by simp at h
  | _ :: _, [], _, h, _, _, _, _, _, _ => by cases h
  | a :: as, y :: L, H, h, hn, j, t, z, h1, h2 => by
    have hn' := List.nodup_cons.mp hn
    cases j with
    | zero =>
      simp at h1 h2
      subst h1 h2
      show putT (upd H a _) as L a = _
      rw [putT_off as L _ hn'.1, upd_same]
    | succ j => exact putT_at as L _ (Nat.succ.inj h) hn'.2 j t z (by simpa using h1) (by simpa using h2)
section
variable {w : World} {T : List Addr} {M : Mem}
theorem HS.putT : ∀ (as : List Addr) (L : List (Int × V × V)) {G H : Hp}, HS w T G H M → (∀ t ∈ as, H t = none) → as.Nodup → HS w T (LW.putT G as L) (LW.putT H as L) M ∧ Step G H M (LW.putT G as L) (LW.putT H as L) M
  | [], _, _, _, hs, _, _ => ⟨hs, Step.refl _ _ _⟩
  | _ :: _, [], _, _, hs, _, _ => ⟨hs, Step.refl _ _ _⟩
  | a :: as, z :: L, G, H, hs, hf, hn => by
    have hn' := List.nodup_cons.mp hn
    have ha := hf a List.mem_cons_self
    have h1 := hs.new (o := .tup [z.2.1, z.2.2]) ha fun _ z => by cases z
    have t1 := Step.newI hs (o := .tup [z.2.1, z.2.2]) ha
    obtain ⟨h2, t2⟩ := HS.putT as L h1 (fun t ht => by rw [upd_ne fun e => hn'.1 (by rw [← e]; exact ht)]; exact hf t (List.mem_cons_of_mem _ ht)) hn'.2
    exact ⟨h2, t1.trans t2⟩
theorem putT_L {G : Hp} : ∀ {L : List (Int × V × V)} {kvs : List (D × D)} {as : List Addr}, DtE w G L kvs → (∀ (j : Nat) (t : Addr) (z : Int × V × V), as[j]? = some t → L[j]? = some z → G t = some (.tup [z.2.1, z.2.2])) → as.length = L.length → DtL w G (as.map V.ref) (kvs.map prD)
  | _, _, [], .nil, _, _ => .nil
  | _, _, [], .cons _ _ _ _, _, h => by cases h
  | _, _, _ :: _, .nil, _, h => by cases h
  | _, _, t :: as, .cons _ a b r, h, hl => .cons (.tup (h 0 t _ rfl rfl) (.cons a (.cons b .nil))) (putT_L r (fun j t z h1 h2 => h (j + 1) t z (by simpa using h1) (by simpa using h2)) (Nat.succ.inj hl))
end
section
variable {X : Cx} {pins : List (Addr × Obj)} {σ : L2.St} {H : Hp} {s : Shared}
theorem inv_ext {h' : Heap} {tk : Nat} {H' : Hp} (I : L2.Inv X pins σ H s) (hk : ∀ b o, s.heap.get? b = some o → h'.get? b = some o) (kp : ∀ b u, H b = some u → H' b = some u) (old : ∀ b o, s.heap.get? b = some o → H' b = H b) (ok : ∀ b u, H' b = some u → H b = some u ∨ ObjOk X.prog X.w H' h' b u) :
    L2.Inv X pins σ H' { s with heap := h', toks := tk } := by
  refine I.call' (ch := []) rfl ⟨fun b o q _ _ _ => hk b o q, fun b o q _ _ _ => ⟨o.slots, hk b o q⟩, fun b o q n _ => by rw [old b o q]; exact n, fun b o q _ => ⟨o, hk b o q⟩, fun b xs q => kp b _ q, fun b o u q => kp b _ q, fun b ps q => ⟨#[], by rw [kp b _ q]; simp⟩⟩ (fun b u q => ?_) I.bare fun b z => by simp at z
  rcases ok b u q with e | e
  · exact (I.hok b u e).stay (fun d v _ y => hk d v y) (fun d y => kp d _ y) fun d xs y => kp d _ y
  · exact e
/-- what a walk over the items made -/
theorem made_putT {h' : Heap} {L : List (Int × V × V)} {es : Array DictEntry} {as : List Addr} (I : L2.Inv X pins σ H s) (hk : ∀ b o, s.heap.get? b = some o → h'.get? b = some o) (hl : as.length = es.size) (hG : PySem.W.DilG es s.heap.objs.size h' as) (hsz : es.size = L.length) (pr : Paired EntR L es.toList) :
    as.Nodup ∧ (∀ t ∈ as, H t = none) ∧ (∀ b o, s.heap.get? b = some o → b ∉ as) ∧ ∀ (H0 H' : Hp) b u, b ∈ as → putT H0 as L b = some u → ObjOk X.prog X.w H' h' b u := by
  have nd : as.Nodup := List.Pairwise.imp (fun {a b} (h : a < b) => Nat.ne_of_lt h) hG.rise
  refine ⟨nd, fun t ht => I.hok.fresh (Nat.le_of_lt (hG.above t ht)), fun b o q z => absurd (Heap.lt_size q) (Nat.not_lt.mpr (Nat.le_of_lt (hG.above b z))), fun H0 H' b u hb q => ?_⟩
  obtain ⟨j, hj⟩ := List.mem_iff_getElem?.mp hb
  obtain ⟨hje, e⟩ := hG.pairs j b hj
  obtain ⟨z, hz, h1, h2, h3⟩ := Paired.at_ pr (i := j) (y := es[j]) (by rw [Array.getElem?_toList]; exact Array.getElem?_eq_getElem hje)
  rw [putT_at as L H0 (by rw [hl, hsz]) nd j b z hj hz] at q
  cases q
  exact ⟨by show 2 ≤ sizeLine; decide, [es[j].key, es[j].val], .cons h2 (.cons h3 .nil), ⟨_, e, rfl, _, rfl⟩⟩
theorem inv_putT {h' : Heap} {tk : Nat} {L : List (Int × V × V)} {es : Array DictEntry} {as : List Addr} (I : L2.Inv X pins σ H s) (hk : ∀ b o, s.heap.get? b = some o → h'.get? b = some o) (hl : as.length = es.size) (hG : PySem.W.DilG es s.heap.objs.size h' as) (hsz : es.size = L.length) (pr : Paired EntR L es.toList) :
    as.Nodup ∧ (∀ t ∈ as, H t = none) ∧ L2.Inv X pins σ (putT H as L) { s with heap := h', toks := tk } := by
  obtain ⟨nd, new, low, mk⟩ := made_putT I hk hl hG hsz pr
  refine ⟨nd, new, inv_ext I hk (fun b u e => ?_) (fun b o q => putT_off as L _ (low b o q)) fun b u q => ?_⟩
  · rw [putT_off as L _ fun z => by rw [new b z] at e; cases e]
    exact e
  · by_cases hb : b ∈ as
    · exact .inr (mk H _ b u hb q)
    · rw [putT_off as L _ hb] at q
      exact .inl q
/-- the sort of a collected list -/
theorem sort_tail {Q : VK} {ds : List D} {G : Hp} {its : List Value} {h' : Heap} {tk : Nat} {xs : List V} (hu : X.A.units + 100 < cLine) (hG : ∀ b o, G b = some o → H b = some o) (hS : Srt ds) (I1 : L2.Inv X pins σ H { s with heap := h', toks := tk }) (rv : Vals xs its) (rd : DtL X.w G xs ds)
    (k : ∀ q ys, H q = none → DtL X.w G ys (sortD ds) → Q (.ref q) (upd H q (.lst ys))) :
      wpAny (model X.prog X.w) X.A.in1 (do
        let l ← newList its
        let _ ← holding [l] (call (.builtin "list.sort") [l] [])
        ret l) (fun fin s' => ∃ v, fin = .done (.ret v) ∧ EP X pins σ Q v s') X.xe { s with heap := h', toks := tk } := by
  have hl : its.length = ds.length := by rw [← rv.length, rd.length]
  refine wpAny_bind (wpAny_newList ?_ (by rw [hl]; exact hS.len))
  have hoL : (h'.push (seqObj "list" its.toArray 0)).get? h'.objs.size = some (seqObj "list" its.toArray 0) := Heap.get?_push_size _ rfl
  have I2 : L2.Inv X pins σ (upd H h'.objs.size (.lst xs)) { s with heap := h'.push (seqObj "list" its.toArray 0), toks := tk } := I1.lnew (t' := tk) rv (by rw [rd.length]; exact hS.len)
  have nH : H h'.objs.size = none := I1.hok.fresh (Nat.le_refl _)
  show wpAny _ _ _ _ _ { s with heap := h'.push (seqObj "list" its.toArray 0), toks := tk }
  obtain ⟨e1, e2⟩ := each_of I1 hG rv rd hS.py
  have e2' : W.EachIs (fun u d => ∃ as, Reads (h'.push (seqObj "list" its.toArray 0)) u (pyD d) as ∧ h'.objs.size ∉ as) its ds := e2.mono fun u d ⟨as, r⟩ => ⟨as, PyProof.Rows.Reads.keeps (fun _ _ e => Heap.get?_push_of_some _ e) r, fun hm => Nat.lt_irrefl _ (reads_lt r _ hm)⟩
  refine wpAny_bind (wpAny_holding (W.list_sort_data (s := { s with heap := h'.push (seqObj "list" its.toArray 0), toks := tk }) hoL e1 e2' hS.alike hS.sortable hS.len (fun b hb => ?_) fun out ho eo => ?_))
  · have := hS.dep b hb
    show X.A.units + 1 + 1 + _ < _
    omega
  · obtain ⟨ys, ry, rd'⟩ := each_back eo
    obtain ⟨e', he'⟩ := PyProof.Rows.sortedHeap_at (vs := its) (out := out.toArray) hoL
    refine wpAny_pure ⟨_, rfl, .ref h'.objs.size, upd H h'.objs.size (.lst ys), I1.laid (t' := tk) (fun b u e => ?_) (Nat.le_refl _) (show ObjOk X.prog X.w _ _ _ (.lst ys) from ⟨by rw [ry.length, ho]; exact hS.len, out, e', ry, he'⟩), rfl, k _ ys nH rd'⟩
    have hb : b < h'.objs.size := Heap.lt_size e
    rw [PyProof.Rows.sortedHeap_old (Nat.ne_of_lt hb) (by rw [size_push']; exact Nat.lt_succ_of_lt hb)]
    exact Heap.get?_push_of_some _ e
/-- d.items() as a value -/
def tVw (te : TE) : TE := fun σ H Q => te σ H fun x H1 => ∃ (a : Addr) (L : List (Int × V × V)), x = .ref a ∧ (a == sysModules) = false ∧ Rd H1 a (dicO a L) ∧ ∀ p, H1 p = none → Q (.ref p) (upd H1 p (itemsO p a))
theorem pe_vw {e : Expr} {te : TE} {apos cpos : Pos} (he : PE X e te) (hbase : attributeBase e "items" X.env (eval e X.env) = eval e X.env := by rfl) (hline : (apos.endLine == cpos.line) = true := by rfl) :
    PE X (.Call (.Attribute e "items" apos) [] [] cpos) (tVw te) := by
  refine ⟨fun pins s σ H Q I h => ?_⟩
  refine wpAny_Call_method (T := "dict") (id := "dict.items") hbase rfl hline F.plainAttrs_dict F.slot_dict_items F.type_dict_items (thn (he.run pins s σ H _ I h) fun u s1 ⟨x, H1, I1, rx, d, L, ex, hs, hd, q⟩ => ?_)
  subst ex
  obtain rfl : u = Value.ref d := rx
  obtain ⟨es, ep, raw, hsz, pr⟩ := raw_of I1 hd
  refine ⟨raw.typeIs, fun b e => ?_, ?_⟩
  · cases e
    obtain ⟨o, g', c, _⟩ := raw
    exact ⟨o, g', c.2.1⟩
  show wpAny _ _ (callWith cpos (.builtin "dict.items") [.ref d] [] []) _ X.xe s1
  refine method_meetsIn F.slot_dict_items F.entry_dict_items rfl (PySem.evalArgs_none ⟨rfl, raw.typeIs, F.args_dict_items_1 _, _, meets_dict_items_raw d hs, ⟨es, ep, raw⟩, ?_⟩)
  exact ⟨.ref s1.heap.objs.size, _, I1.laid (t' := s1.toks) (fun b ob q => Heap.get?_push_of_some _ q) (Nat.le_refl _) (itemsO_ok (Heap.get?_push_size _ rfl)), rfl, q _ (I1.hok.fresh (Nat.le_refl _))⟩
def rVw (w : World) (ok : List (D × D) → Prop) (fin : Hp → Hp → List (D × D) → VK → Prop) : List V → Hp → VK → Prop := fun vs H Q => ∃ (p a : Addr) (L : List (Int × V × V)) (G : Hp) (kvs : List (D × D)), vs = [.ref p] ∧ H p = some (itemsO p a) ∧ Rd H a (dicO a L) ∧ (∀ b o, G b = some o → H b = some o) ∧ DtE w G L kvs ∧ ok kvs ∧ kvs.length ≤ sizeLine ∧
  ∀ as : List Addr, as.length = L.length → as.Nodup → (∀ t ∈ as, H t = none) → fin (putT G as L) (putT H as L) kvs Q
theorem cr_sortVw (hc : X.calm = true) (hu : X.A.units + 100 < cLine) : CallR X (.builtin "sorted") (rVw X.w (fun kvs => Srt (kvs.map prD)) fun G H kvs Q => ∀ q ys, H q = none → DtL X.w G ys (sortD (kvs.map prD)) → Q (.ref q) (upd H q (.lst ys))) := by
  intro pins s σ H vs us Q I rs ⟨p, a, L, G, kvs, e, hp, hR, hG, hE, hS, hz, k⟩
  subst e
  obtain ⟨u, rfl, ru⟩ := vals1 rs
  cases ru
  have view : s.heap.IsItemsView p a := (show ObjOk X.prog X.w H s.heap p (itemsO p a) from I.hok p _ hp).1
  obtain ⟨es, ep, raw, hsz, pr⟩ := raw_of I hR
  refine Calls.call_function_entry PyProof.Rows.kind_sorted PyProof.Rows.plain_sorted PyProof.Rows.entry_sorted (PyProof.Rows.args_sorted1 _) ?_
  unfold Builtin.«sorted»
  refine wpAny_bind (m := checkCount "sorted" 1 1 _) (wpAny_pure ?_)
  refine wpAny_bind (PySem.W.dil_collect (A := X.A.in1) (I.ok.hd hc) view raw (by rw [hsz, hE.length]; exact hz) fun h' tk as hk hl hG' => ?_)
  obtain ⟨nd, new, I1⟩ := inv_putT (tk := tk) (L := L) I hk hl hG' hsz pr
  have hup : ∀ b o, G b = some o → putT G as L b = some o := fun b o e => by
    rw [putT_off as L _ fun z => by have := new b z; rw [hG b o e] at this; cases this]
    exact e
  have hGH : ∀ b o, putT G as L b = some o → putT H as L b = some o := fun b o e => by
    by_cases hb : b ∈ as
    · obtain ⟨j, hj⟩ := List.mem_iff_getElem?.mp hb
      have hjl : j < L.length := by rw [← hsz, ← hl]; exact (List.getElem?_eq_some_iff.mp hj).1
      rw [putT_at as L G (by rw [hl, hsz]) nd j b _ hj (List.getElem?_eq_getElem hjl)] at e
      rw [putT_at as L H (by rw [hl, hsz]) nd j b _ hj (List.getElem?_eq_getElem hjl)]
      exact e
    · rw [putT_off as L _ hb] at e ⊢
      exact hG b o e
  exact sort_tail hu hGH hS I1 (LiI.vals_refs as) (putT_L (hE.up hup) (fun j t z h1 h2 => putT_at as L G (by rw [hl, hsz]) nd j t z h1 h2) (by rw [hl, hsz])) (k as (by rw [hl, hsz]) nd new)
theorem call_listVw (hc : X.calm = true) : CallR X (.type "list") (rVw X.w (fun _ => True) fun G H kvs Q => ∀ q ys, H q = none → DtL X.w G ys (kvs.map prD) → Q (.ref q) (upd H q (.lst ys))) := by
  intro pins s σ H vs us Q I rs ⟨p, a, L, G, kvs, e, hp, hR, hG, hE, hS, hz, k⟩
  subst e
  obtain ⟨u, rfl, ru⟩ := vals1 rs
  cases ru
  have view : s.heap.IsItemsView p a := (show ObjOk X.prog X.w H s.heap p (itemsO p a) from I.hok p _ hp).1
  obtain ⟨es, ep, raw, hsz, pr⟩ := raw_of I hR
  refine PySem.W.dil_call (I.ok.hd hc) view raw (by rw [hsz, hE.length]; exact hz) fun h' tk acc c as hk hS hl hG' hacc => ?_
  obtain ⟨nd, new, low, mk⟩ := made_putT (L := L) I hk hl hG' hsz pr
  have hup : ∀ b o, G b = some o → putT G as L b = some o := fun b o e => by
    rw [putT_off as L _ fun z => by have := new b z; rw [hG b o e] at this; cases this]
    exact e
  have hSn : s.heap.objs.size ∉ as := fun z => Nat.lt_irrefl _ (hG'.above _ z)
  have newS : putT H as L s.heap.objs.size = none := by rw [putT_off as L _ hSn]; exact I.hok.fresh (Nat.le_refl _)
  have rd := putT_L (hE.up hup) (fun j t z h1 h2 => putT_at as L G (by rw [hl, hsz]) nd j t z h1 h2) (by rw [hl, hsz])
  have I2 : L2.Inv X pins σ (upd (putT H as L) s.heap.objs.size (.lst (as.map V.ref))) { s with heap := h', toks := tk } := by
    refine inv_ext I hk (fun b u e => ?_) (fun b o q => ?_) fun b u q => ?_
    · have n1 : b ≠ s.heap.objs.size := fun z => by rw [z, I.hok.fresh (Nat.le_refl _)] at e; cases e
      have n2 : b ∉ as := fun z => by rw [new b z] at e; cases e
      rw [upd_ne n1, putT_off as L _ n2]
      exact e
    · rw [upd_ne (Nat.ne_of_lt (Heap.lt_size q)), putT_off as L _ (low b o q)]
    · by_cases hs : b = s.heap.objs.size
      · subst hs
        rw [upd_same] at q
        cases q
        exact .inr ⟨by rw [List.length_map, hl, hsz, hE.length]; exact hz, acc.toList, c, by rw [hacc]; exact LiI.vals_refs as, by rw [Array.toArray_toList]; exact hS⟩
      · rw [upd_ne hs] at q
        by_cases hb : b ∈ as
        · exact .inr (mk H _ b u hb q)
        · rw [putT_off as L _ hb] at q
          exact .inl q
  exact ⟨.ref _, _, I2, rfl, k as (by rw [hl, hsz]) nd new _ _ newS rd⟩
end
section
variable {X : Cx} {T : List Addr} {ρ : List (Option D)} {M M1 M2 M3 : Mem} {d da db : D} {a b c e o tg : Expr} {pos p p2 apos cpos tpos : Pos} {ds : List D} {kvs : List (D × D)}
theorem vw_in {w : World} {ok : List (D × D) → Prop} {f : List (D × D) → List D} (l : DV M1 da kvs) (hk : ok kvs) (σ : L2.St) (H : Hp) (Q : VK) (h : tE w T ρ M (.lst (f kvs)) M1 σ H Q) :
    tVw (tE w T ρ M da M1) σ H fun v H1 => rVw w ok (fun G H kvs Q => ∀ q ys, H q = none → DtL w G ys (f kvs) → Q (.ref q) (upd H q (.lst ys))) [v] H1 Q := by
  obtain ⟨G, hs, sl, k⟩ := h
  refine ⟨G, hs, sl, fun v G1 H1 st1 hs1 r1 => ?_⟩
  obtain ⟨q, L, rfl, dst⟩ := l.st hs1 r1
  refine ⟨q, L, rfl, dst.ok.sys, dst.rd, fun p hp => ?_⟩
  have hs2 := hs1.new (o := itemsO p q) hp fun _ z => by cases z
  have st2 := Step.newI hs1 (o := itemsO p q) hp
  have gp := hs1.freshG hp
  refine ⟨p, q, L, upd G1 p (itemsO p q), kvs, rfl, upd_same, ?_, hs2.sub, dst.ent.up (up_upd gp), hk, dst.ok.len, fun as hal nd new q2 ys hq2 rd => ?_⟩
  · rcases dst.rd with e | ⟨o, e⟩
    · exact .inl (by rw [upd_ne (ne_of_none e hp)]; exact e)
    · exact .inr ⟨o, by rw [upd_ne (ne_of_none e hp)]; exact e⟩
  · obtain ⟨hs3, st3⟩ := HS.putT as L hs2 new nd
    exact k _ _ _ ((((st1.trans st2).trans st3)).trans (Step.newI hs3 hq2)) (hs3.new hq2 fun _ z => by cases z) (.lst upd_same (rd.up (up_upd (hs3.freshG hq2))))
theorem pa_one {t : TE} (h : PE X e t) (hs : starEach [e] X.env = (false, eval e X.env) :: starEach [] X.env := by rfl) : PA X [e] (fun σ H Q => t σ H fun v H1 => Q [v] H1) :=
  (pa_cons h pa_nil hs).imp fun σ H Q q => q
/-- sorted(d.items()) -/
theorem pd_sortItems (l : DV M1 da kvs) (hS : Srt (kvs.map prD)) (hu : X.A.units + 100 < cLine) (hm : X.mg "sorted" = none) (ha : PD X T ρ M e da M1) (hc : X.calm = true := by rfl) (hg : Gl X "sorted" := by rfl) (hbase : attributeBase e "items" X.env (eval e X.env) = eval e X.env := by rfl) (hline : (apos.endLine == cpos.line) = true := by rfl)
    (he : starEach [.Call (.Attribute e "items" apos) [] [] cpos] X.env = (false, eval (.Call (.Attribute e "items" apos) [] [] cpos) X.env) :: starEach [] X.env := by rfl) :
    PD X T ρ M (.Call (.Name "sorted" p) [.Call (.Attribute e "items" apos) [] [] cpos] [] pos) (.lst (sortD (kvs.map prD))) M1 :=
  (pe_callB (cr_sortVw hc hu) hg hm (by decide +kernel) (pa_one (pe_vw ha hbase hline) he) (by decide) (by decide) he).imp fun σ H Q q => vw_in (f := fun kvs => sortD (kvs.map prD)) l hS σ H Q q
/-- list(d.items()) -/
theorem pd_listItems (l : DV M1 da kvs) (hm : X.mg "list" = none) (ha : PD X T ρ M e da M1) (hc : X.calm = true := by rfl) (hg : Gl X "list" := by rfl) (hbase : attributeBase e "items" X.env (eval e X.env) = eval e X.env := by rfl) (hline : (apos.endLine == cpos.line) = true := by rfl)
    (he : starEach [.Call (.Attribute e "items" apos) [] [] cpos] X.env = (false, eval (.Call (.Attribute e "items" apos) [] [] cpos) X.env) :: starEach [] X.env := by rfl) :
    PD X T ρ M (.Call (.Name "list" p) [.Call (.Attribute e "items" apos) [] [] cpos] [] pos) (.lst (kvs.map prD)) M1 :=
  (pe_callTy (call_listVw hc) hg hm (by decide +kernel) (pa_one (pe_vw ha hbase hline) he) (by decide) (by decide) he).imp fun σ H Q q => vw_in (ok := fun _ => True) (f := fun kvs => kvs.map prD) l trivial σ H Q q
end
end LW

set_option Elab.async false
set_option linter.all false
set_option maxRecDepth 100000
set_option maxHeartbeats 2000000
/-! LZ: texts, isinstance, max of two, of a tuple; dicts by bools; sum(map(ord, text)); try. -/
namespace LW
open PySem PySem.Spec PyProof.Rows L2
theorem encK_str : EncK 0 D.str NestedKey.text := ⟨fun _ => rfl, fun a b h => by injection h, fun _ => by simp [NestedKey.depth]⟩
section
variable {X : Cx} {T : List Addr} {ρ ρ' : List (Option D)} {M M1 M2 M3 : Mem} {d da db dc : D} {a b c e o : Expr} {es : List Expr} {pos tpos p apos : Pos} {ds : List D} {x y z : Str}
theorem pd_addS (h : x.length + y.length ≤ sizeLine) (ha : PD X T ρ M a (.str x) M1) (hb : PD X T ρ M1 b (.str y) M2) : PD X T ρ M (.BinOp a .Add b pos) (.str (x ++ y)) M2 :=
  pd_op op_add_str (fun G H v u Q hs r1 r2 k => by
    cases r1
    cases r2
    exact ⟨x, y, rfl, rfl, h, k _ G H (Step.refl _ _ _) hs (.str _)⟩) ha hb
theorem ok_iaddS {w : World} (h : x.length + y.length ≤ sizeLine) : OkR2 w T M (fun x y H Q => ∃ i j, x = .str i ∧ y = .str j ∧ i.length + j.length ≤ sizeLine ∧ Q (.str (i ++ j)) H) (.str x) (.str y) (.str (x ++ y)) := fun G H v u Q hs r1 r2 k => by
  cases r1
  cases r2
  exact ⟨x, y, rfl, rfl, h, k _ G H (Step.refl _ _ _) hs (.str _)⟩
theorem ty_str (G H : Hp) (v : V) (hs : HS X.w T G H M) (r : Dt X.w G v (.str x)) : tyD "str" v H := by
  cases r
  exact .inr (.inr ⟨rfl, x, rfl⟩)
/-- sep.join(a list of texts) -/
theorem pd_join {ys : List Str} (l : LV M2 db (ys.map D.str)) (h : (ys.map (·.length)).sum + ys.length * x.length ≤ 16777216) (ho : PD X T ρ M o (.str x) M1) (ha : PD X T ρ M1 e db M2)
    (hbase : attributeBase o "join" X.env (eval o X.env) = eval o X.env := by rfl)
    (hfew : ((backTo pos (starEach [e] X.env)).all (fun x => !x.1) && (backToKw pos (keywordEach [] X.env)).all (fun x => x.1.isSome)
      && decide ([e].length + ([] : List Keyword).length + (if ([] : List Keyword).isEmpty then 0 else 1) < 30)) = true := by rfl)
    (hline : (apos.endLine == pos.line) = true := by rfl) (hs : starEach [e] X.env = (false, eval e X.env) :: starEach [] X.env := by rfl) : PD X T ρ M (.Call (.Attribute o "join" apos) [e] [] pos) (.str (Txt.join x ys)) M2 := by
  refine pd_m F.plainAttrs_str F.slot_str_join rfl mt_join ho (pdl_1 ha hs) (fun G H v hs' r => ty_str (X := X) (T := T) (M := M1) G H v hs' r) (fun G H v us Q hs' r1 r2 k => ?_) hbase hfew hline hs rfl
  cases r1
  obtain ⟨u, rfl, ru⟩ := r2.one
  obtain ⟨q, xs, rfl, e', rx⟩ := l.get hs' ru
  exact ⟨x, q, ys, rfl, rfl, .inl (SqL.of (rx.strs ▸ e')), h, k _ G H (Step.refl _ _ _) hs' (.str _)⟩
/-- x.split(sep) -/
theorem pd_split (hy : (y.length == 0) = false) (hx : x.length + 2 ≤ sizeLine) (ho : PD X T ρ M o (.str x) M1) (ha : PD X T ρ M1 e (.str y) M2)
    (hbase : attributeBase o "split" X.env (eval o X.env) = eval o X.env := by rfl)
    (hfew : ((backTo pos (starEach [e] X.env)).all (fun x => !x.1) && (backToKw pos (keywordEach [] X.env)).all (fun x => x.1.isSome)
      && decide ([e].length + ([] : List Keyword).length + (if ([] : List Keyword).isEmpty then 0 else 1) < 30)) = true := by rfl)
    (hline : (apos.endLine == pos.line) = true := by rfl) (hs : starEach [e] X.env = (false, eval e X.env) :: starEach [] X.env := by rfl) : PD X T ρ M (.Call (.Attribute o "split" apos) [e] [] pos) (.lst ((Txt.split x y).map D.str)) M2 := by
  refine pd_m F.plainAttrs_str F.slot_str_split rfl mt_split ho (pdl_1 ha hs) (fun G H v hs' r => ty_str (X := X) (T := T) (M := M1) G H v hs' r) (fun G H v us Q hs' r1 r2 k => ?_) hbase hfew hline hs rfl
  cases r1
  obtain ⟨u, rfl, ru⟩ := r2.one
  cases ru
  refine ⟨x, y, rfl, rfl, hy, hx, fun q hq => ?_⟩
  exact k _ _ _ (Step.newI hs' hq) (hs'.new hq fun _ z => by cases z) (.lst upd_same (DtL.ofStrs _))
/-- x.strip(signs) -/
theorem pd_strip (hx : x.length ≤ sizeLine) (ho : PD X T ρ M o (.str x) M1) (ha : PD X T ρ M1 e (.str y) M2)
    (hbase : attributeBase o "strip" X.env (eval o X.env) = eval o X.env := by rfl)
    (hfew : ((backTo pos (starEach [e] X.env)).all (fun x => !x.1) && (backToKw pos (keywordEach [] X.env)).all (fun x => x.1.isSome)
      && decide ([e].length + ([] : List Keyword).length + (if ([] : List Keyword).isEmpty then 0 else 1) < 30)) = true := by rfl)
    (hline : (apos.endLine == pos.line) = true := by rfl) (hs : starEach [e] X.env = (false, eval e X.env) :: starEach [] X.env := by rfl) : PD X T ρ M (.Call (.Attribute o "strip" apos) [e] [] pos) (.str (Txt.stripChars x y)) M2 := by
  refine pd_m F.plainAttrs_str F.slot_str_strip rfl mt_stripChars ho (pdl_1 ha hs) (fun G H v hs' r => ty_str (X := X) (T := T) (M := M1) G H v hs' r) (fun G H v us Q hs' r1 r2 k => ?_) hbase hfew hline hs rfl
  cases r1
  obtain ⟨u, rfl, ru⟩ := r2.one
  cases ru
  exact ⟨x, y, rfl, rfl, hx, k _ G H (Step.refl _ _ _) hs' (.str _)⟩
/-- int(text) -/
theorem pd_intS {n : Int} (h : PySem.intText? x = some n) (hx : x.length ≤ 640) (hm : X.mg "int" = none) (ha : PD X T ρ M a (.str x) M1) (hg : Gl X "int" := by rfl) (he : starEach [a] X.env = (false, eval a X.env) :: starEach [] X.env := by rfl) :
    PD X T ρ M (.Call (.Name "int" p) [a] [] pos) (.int n) M1 :=
  pd_callT call_int_str (fun G H vs Q hs r k => by
    obtain ⟨v, rfl, rr⟩ := r.one
    cases rr
    exact ⟨x, n, rfl, h, hx, k _ G H (Step.refl _ _ _) hs (.int _)⟩) hm (by decide +kernel) (pdl_1 ha he) hg (by decide) (by decide) he
/-- ord(sign) -/
theorem pd_ord (hx : x.length = 1) (hm : X.mg "ord" = none) (ha : PD X T ρ M a (.str x) M1) (hg : Gl X "ord" := by rfl) (he : starEach [a] X.env = (false, eval a X.env) :: starEach [] X.env := by rfl) :
    PD X T ρ M (.Call (.Name "ord" p) [a] [] pos) (.int ((x.cps.getD 0 0 : Nat) : Int)) M1 :=
  pd_callB call_ord (fun G H vs Q hs r k => by
    obtain ⟨v, rfl, rr⟩ := r.one
    cases rr
    exact ⟨x, rfl, hx, k _ G H (Step.refl _ _ _) hs (.int _)⟩) hm (by decide +kernel) (pdl_1 ha he) hg (by decide) (by decide) he
/-! x in (a, b) of texts -/
theorem inV_strs (i : Str) (ns : List Str) : inV (.str i) (ns.map V.str) = ns.contains i := by
  unfold inV
  induction ns with
  | nil => rfl
  | cons n ns ih =>
    rw [List.map_cons, List.any_cons, ih, List.contains_cons]
    congr 1
    show decide _ = _
    by_cases h : n = i
    · subst h; simp
    · have : ¬ i = n := fun z => h z.symm
      simp [h, this]
theorem flat_strs (ns : List Str) : (ns.map V.str).all flatV = true := by
  induction ns with
  | nil => rfl
  | cons n ns ih => rw [List.map_cons, List.all_cons, ih]; rfl
theorem pdt_ninS {ns : List Str} (ha : PD X T ρ M a (.str x) M1) (hb : PD X T ρ M1 b (.tup (ns.map D.str)) M2) (hm : behindInMarks .NotIn b = false := by first | exact nomark _ | rfl | with_unfolding_all rfl) : PDT X T ρ M (.Compare a [.NotIn] [b] pos) (!ns.contains x) M2 :=
  pdt_cmp op_notIn_seq (fun G H v u Q hs r1 r2 q => by
    cases r1
    obtain ⟨p, xs, rfl, e, r⟩ := r2.tupH hs
    rw [r.strs] at e
    refine ⟨p, _, rfl, .inr (SqT.of e), rfl, flat_strs ns, ?_⟩
    rw [inV_strs]
    exact q _ G H (Step.refl _ _ _) hs (.bl _)) ha hb hm
/-! isinstance(e, bool) -/
def D.isB : D → Bool
  | .bl _ => true
  | _ => false
def isTree : D → Bool
  | .bl _ => true
  | .tup _ => true
  | _ => false
theorem pe_tyB (hm : X.mg "bool" = none) (hg : Gl X "bool" := by rfl) : PE X (.Name "bool" pos) (fun σ H Q => Q (.ty "bool") H) :=
  ⟨fun pins s σ H Q I h => ld_blt I hg hm (u := .type "bool") (by decide +kernel) ⟨.ty "bool", H, I, rfl, h⟩⟩
theorem pd_isB {p2 : Pos} (ht : isTree d = true) (hm : X.mg "isinstance" = none) (hm2 : X.mg "bool" = none) (ha : PD X T ρ M a d M1) (hg : Gl X "isinstance" := by rfl) (hg2 : Gl X "bool" := by rfl)
    (he : starEach [a, .Name "bool" p2] X.env = (false, eval a X.env) :: starEach [.Name "bool" p2] X.env := by rfl) (he2 : starEach [.Name "bool" p2] X.env = (false, eval (.Name "bool" p2) X.env) :: starEach [] X.env := by rfl) (hpl : (backTo pos (starEach [.Name "bool" p2] X.env)).any (·.1) = false := by rfl) :
    PD X T ρ M (.Call (.Name "isinstance" p) [a, .Name "bool" p2] [] pos) (.bl d.isB) M1 :=
  (pe_callB call_isi hg hm (by decide +kernel) (pa_cons ha (pa_cons (pe_tyB hm2 hg2) pa_nil he2) he) (by decide) (by decide) he hpl).imp fun σ H Q ⟨G, hs, sl, k⟩ => ⟨G, hs, sl, fun v G1 H1 st hs1 r => by
    cases r with
    | bl b => exact ⟨.bl b, .ty "bool", _, _, true, rfl, .ty _, .base (.bl b), by kernel_rfl, k _ G1 H1 st hs1 (.bl true)⟩
    | tup eg rr => exact ⟨_, .ty "bool", _, _, false, rfl, .ty _, .base (.tup (hs1.sub _ _ eg)), by kernel_rfl, k _ G1 H1 st hs1 (.bl false)⟩
    | _ => cases ht⟩
/-! max -/
theorem pd_max2 {i j : Int} (hm : X.mg "max" = none) (ha : PD X T ρ M a (.int i) M1) (hb : PD X T ρ M1 b (.int j) M2) (hc : X.calm = true := by rfl) (hg : Gl X "max" := by rfl)
    (he : starEach [a, b] X.env = (false, eval a X.env) :: starEach [b] X.env := by rfl) (he2 : starEach [b] X.env = (false, eval b X.env) :: starEach [] X.env := by rfl) (hpl : (backTo pos (starEach [b] X.env)).any (·.1) = false := by rfl) :
    PD X T ρ M (.Call (.Name "max" p) [a, b] [] pos) (.int (max i j)) M2 :=
  pd_callB (call_max2 hc) (fun G H vs Q hs r k => by
    obtain ⟨v, u, rfl, r1, r2⟩ := r.two
    cases r1
    cases r2
    refine ⟨i, j, rfl, ?_⟩
    have e : (if j > i then j else i) = max i j := by
      by_cases h : j > i
      · rw [if_pos h, Int.max_eq_right (Int.le_of_lt h)]
      · rw [if_neg h, Int.max_eq_left (by omega)]
    rw [e]
    exact k _ G H (Step.refl _ _ _) hs (.int _)) hm (by decide +kernel) (pdl_cons ha (pdl_1 hb he2) he) hg (by decide) (by decide) he hpl
theorem cr_maxT (hc : X.calm = true) (hu : X.A.units + 10 < cLine) : CallR X (.builtin "max") (fun vs H Q => ∃ (a : Addr) (n : Int) (r : List Int), vs = [.ref a] ∧ SqT X.K H a ((n :: r).map V.int) ∧ Q (.int (r.foldl max n)) H) := by
  intro pins s σ H vs us Q I r1 ⟨a, m, ms, e1, hH, q⟩
  subst e1
  obtain ⟨u, rfl, ru⟩ := vals1 r1
  cases ru
  obtain ⟨its, rv, hl, hz⟩ := I.tuple hH
  refine W.max_tuple_data (vs := its.toArray) (x := .int m) (xs := ms.map PyData.int) (I.ok.hd hc) hl (by simpa using reads_ints (ns := m :: ms) rv) (alike_ints (m :: ms)) (by have := W.depth_ints (m :: ms); rw [List.map_cons] at this; rw [this]; omega) fun i v h' tk bs hv hr hk => ?_
  rw [W.maxD_ints] at hr
  cases hr with
  | int _ t => exact ⟨.int _, H, I.kept (t' := tk) hk, ⟨t, rfl⟩, q⟩
theorem pd_maxT {n : Int} {r : List Int} (hu : X.A.units + 10 < cLine) (hm : X.mg "max" = none) (ha : PD X T ρ M a (.tup ((n :: r).map D.int)) M1) (hc : X.calm = true := by rfl) (hg : Gl X "max" := by rfl) (he : starEach [a] X.env = (false, eval a X.env) :: starEach [] X.env := by rfl) :
    PD X T ρ M (.Call (.Name "max" p) [a] [] pos) (.int (r.foldl max n)) M1 :=
  pd_callB (cr_maxT hc hu) (fun G H vs Q hs rr k => by
    obtain ⟨v, rfl, r2⟩ := rr.one
    obtain ⟨q, xs, rfl, e, rx⟩ := r2.tupH hs
    exact ⟨q, n, r, rfl, SqT.of (rx.ints ▸ e), k _ G H (Step.refl _ _ _) hs (.int _)⟩) hm (by decide +kernel) (pdl_1 ha he) hg (by decide) (by decide) he
/-! dict([..]) by bools -/
def eBl (p : Bool × D) : D × D := (.bl p.1, p.2)
theorem kok_bl (ps : List (Bool × D)) : KOk (ps.map eBl) :=
  ⟨⟨.b, fun p hp => by obtain ⟨z, _, rfl⟩ := List.mem_map.mp hp; rfl⟩, fun p hp => by obtain ⟨z, _, rfl⟩ := List.mem_map.mp hp; exact ⟨_, rfl, Nat.zero_le _⟩⟩
theorem pd_dictB {ps : List (Bool × D)} (l : LV M1 da ((ps.map eBl).map prD)) (hl : ps.length ≤ sizeLine) (hm : X.mg "dict" = none) (ha : PD X T ρ M a da M1) (hc : X.calm = true := by rfl) (hg : Gl X "dict" := by rfl) (he : starEach [a] X.env = (false, eval a X.env) :: starEach [] X.env := by rfl) :
    PD X T ρ M (.Call (.Name "dict" p) [a] [] pos) (.dic (dmrg [] (ps.map eBl))) M1 :=
  pd_callT (call_dictL hc (kx_bool _ _)) (ok_dictL l (fun p hp => by obtain ⟨z, _, rfl⟩ := List.mem_map.mp hp; exact ⟨z.1, rfl⟩) (kok_bl ps) (by rw [List.length_map]; exact hl)) hm (by decide +kernel) (pdl_1 ha he) hg (by decide) (by decide) he
end
/-! ### sum(map(ord, text)) -/
def ordV : V → Int
  | .str x => ((x.cps.getD 0 0 : Nat) : Int)
  | _ => 0
theorem mapV_ord {prog : Program} {w : World} : MapV prog w (.builtin "ord") (fun v => ∃ x : Str, v = .str x ∧ x.length = 1) (fun v => .int (ordV v)) :=
  mapV_of fun A E Q s x u _ hc rx h => by
    obtain ⟨a, rfl, hz⟩ := hc
    obtain ⟨t, rfl⟩ := rx
    exact ord_of_one hz (h _ _ ⟨_, rfl⟩)
theorem sum_map_str {prog : Program} {w : World} {A : Around} {E : Value → Shared → Prop} {s : Shared} {f : Value} {x : Str} {t : Tok} {C : Value → Prop} {R : Value → Value → Prop} {val : Nat → Int} {Q : Value → Shared → Prop} (hh : A.handled = none)
    (hF : MpR.MapF prog w f C R) (hC : ∀ (i c : Nat) (u : Tok), x.cps[i]? = some c → C (.str ⟨#[c]⟩ u)) (hval : ∀ (i c : Nat) (u : Tok) (v : Value), x.cps[i]? = some c → R (.str ⟨#[c]⟩ u) v → ∃ t, v = .int (val i) t)
    (hq : ∀ h' t' k, (∀ b o, s.heap.get? b = some o → h'.get? b = some o) → Q (.int (preSum val x.cps.size) t') { s with heap := h', toks := k }) :
    wpAny (model prog w) A (call (.type "map") [f, .str x t]) (fun v s1 => wpAny (model prog w) A (call (.builtin "sum") [v]) Q E s1) E s := by
  have hh1 : A.in1.handled = none := hh
  have hh2 : A.in1.in1.handled = none := hh
  refine MpR.call_map ((Src.begins (.str x t) []).iter _ _ _ _ _ _ trivial ?_)
  intro h' hO hM hsz hk
  have hs1 : (s.heap.push (Src.io (.str x t))).objs.size = s.heap.objs.size + 1 := Heap.size_push ..
  have hit : h'.IsStrIter s.heap.objs.size (strIterType x) x t 0 := ⟨_, hk _ _ (Heap.get?_push_size _ rfl), rfl, rfl⟩
  have hmi : (s.heap.push (Src.io (.str x t))).objs.size + 1 ≠ s.heap.objs.size := by rw [hs1]; exact Nat.ne_of_gt (Nat.lt_succ_of_lt (Nat.lt_succ_self _))
  have hTi : (s.heap.push (Src.io (.str x t))).objs.size ≠ s.heap.objs.size := by rw [hs1]; exact Nat.succ_ne_self _
  have Dr : Draws prog w A.in1.in1 s.heap.objs.size [s.heap.objs.size] x.cps.size (fun i v => ∃ c u, x.cps[i]? = some c ∧ v = .str ⟨#[c]⟩ u) (fun i h => h.IsStrIter s.heap.objs.size (strIterType x) x t i) := by
    unfold strIterType
    split
    · exact Draws.strAscii hh2 _ _ _
    · exact Draws.strWide hh2 _ _ _
  have W := MpR.walks_map (A := A.in1) hh1 Dr hF hmi hTi (by simp) (fun i u ⟨c, tk, h1, h2⟩ => by subst h2; exact hC i c tk h1)
  refine call_sum_walkAnyS (MpR.mp_pyIter hM ?_)
  refine ⟨_, _, _, _, _, _, _, val, rfl, W, ⟨hM, hO, hit⟩, fun b hb => ?_, fun i v hv => ?_, fun s' t' hm => ?_⟩
  · rcases List.mem_cons.mp hb with rfl | hb
    · exact Heap.lt_size hM
    · rcases List.mem_cons.mp hb with rfl | hb
      · exact Heap.lt_size hO
      · rw [List.mem_singleton.mp hb]
        obtain ⟨o, ho, _⟩ := hit
        exact Heap.lt_size ho
  · obtain ⟨u, ⟨c, tk, h1, h2⟩, hr⟩ := hv
    subst h2
    exact hval i c tk v h1 hr
  · rw [Moved.eq_with hm]
    exact hq s'.heap t' s'.toks fun b o e => hm.heap b o (fun hmem => Nat.ne_of_lt (Heap.lt_size e) (List.mem_singleton.mp hmem)) (hk b o (Heap.get?_push_of_some _ e))
theorem preSum_ints : ∀ (ns : List Int) (val : Nat → Int), (∀ (i : Nat) (x : Int), ns[i]? = some x → val i = x) → ∀ n, n ≤ ns.length → preSum val n = (ns.take n).sum
  | _, _, _, 0, _ => rfl
  | ns, val, hv, n + 1, hn => by
    have hx : ns[n]? = some ns[n] := List.getElem?_eq_getElem hn
    show preSum val n + val n = _
    rw [preSum_ints ns val hv n (Nat.le_of_succ_le hn), hv n _ hx, List.take_succ, hx, List.sum_append]
    simp
def ordL (x : Str) : List Int := x.cps.toList.map fun c => ((c : Nat) : Int)
section
variable {X : Cx} {T : List Addr} {ρ ρ' : List (Option D)} {M M1 M2 M3 : Mem} {d da db dc : D} {a b c e o : Expr} {es : List Expr} {pos tpos p apos : Pos} {ds : List D} {x y z : Str}
theorem pe_sumMapS {fe e : Expr} {te : TE} {f : Value} {C : V → Prop} {g : V → Int} {p0 pos p pos2 : Pos} (hc : X.calm = true) (hgs : Gl X "sum") (hms : X.mg "sum" = none) (hg : Gl X "map") (hm : X.mg "map" = none) (hf : PF X fe f) (ha : PE X e te)
    (hF : MapV X.prog X.w f C (fun x => .int (g x))) (hCc : ∀ c : Nat, C (.str ⟨#[c]⟩)) (hs1 : starEach [.Call (.Name "map" p) [fe, e] [] pos2] X.env = (false, eval (.Call (.Name "map" p) [fe, e] [] pos2) X.env) :: starEach [] X.env := by rfl)
    (hp1 : (backTo pos (starEach [] X.env)).any (·.1) = false := by rfl) (hs : starEach [fe, e] X.env = (false, eval fe X.env) :: starEach [e] X.env := by rfl) (hse : starEach [e] X.env = (false, eval e X.env) :: starEach [] X.env := by rfl) (hpl : (backTo pos2 (starEach [e] X.env)).any (·.1) = false := by rfl) :
    PE X (.Call (.Name "sum" p0) [.Call (.Name "map" p) [fe, e] [] pos2] [] pos) (fun σ H Q => te σ H fun v H2 => ∃ x : Str, v = .str x ∧ Q (.int (x.cps.toList.map fun c => g (.str ⟨#[c]⟩)).sum) H2) := by
  refine ⟨fun pins s σ H Q I h => ?_⟩
  refine wpAny_Call_Name_kw (ld_blt I hgs hms boot_sum ?_)
  refine PyProof.Rows.callWith_builtin1 ?_ hs1 hp1
  rw [hs1]
  show wpAny _ _ (spliced ((false, eval (.Call (.Name "map" p) [fe, e] [] pos2) X.env) :: backTo pos (starEach [] X.env))) _ _ s
  refine Calls.spliced_cons ?_
  refine wpAny_Call_Name_kw (ld_blt I hg hm boot_map ?_)
  refine PyProof.Rows.callWith_type1 ?_ hs hpl
  rw [hs]
  show wpAny _ _ (spliced ((false, eval fe X.env) :: backTo pos2 (starEach [e] X.env))) _ _ s
  refine Calls.spliced_cons (hf.run pins s σ H _ I fun s2 I2 => ?_)
  rw [hse]
  show wpAny _ _ (spliced ((false, eval e X.env) :: backTo pos2 (starEach [] X.env))) _ _ s2
  refine Calls.spliced_cons (thn (ha.run pins s2 σ H _ I2 h) fun u s3 ⟨v, H2, I3, r3, x, ex, q3⟩ => ?_)
  subst ex
  obtain ⟨t, rfl⟩ := r3
  refine Calls.spliced_nil ?_
  have hval : ∀ (i : Nat) (y : Int), (x.cps.toList.map fun c => g (.str ⟨#[c]⟩))[i]? = some y → (fun j => ((x.cps.toList.map fun c => g (.str ⟨#[c]⟩))[j]?).getD 0) i = y := fun i y hy => by
    show ((x.cps.toList.map fun c => g (.str ⟨#[c]⟩))[i]?).getD 0 = y
    rw [hy]
    rfl
  have hat : ∀ (i c : Nat), x.cps[i]? = some c → (x.cps.toList.map fun c => g (.str ⟨#[c]⟩))[i]? = some (g (.str ⟨#[c]⟩)) := fun i c hc => by
    rw [List.getElem?_map, Array.getElem?_toList, hc]
    rfl
  refine wpAny_mono (sum_map_str (val := fun j => ((x.cps.toList.map fun c => g (.str ⟨#[c]⟩))[j]?).getD 0) (Q := EP X pins σ Q) (E := X.xe) (I3.ok.hd hc) hF (fun i c u hi => ⟨_, hCc c, ⟨u, rfl⟩⟩) (fun i c u v hi hr => ?_) fun h' t' k hk => ?_) (fun v s4 h4 => Calls.spliced_nil h4) fun _ _ z => z
  · obtain ⟨x2, _, rx2, rv2⟩ := hr
    have ex : x2 = .str ⟨#[c]⟩ := RelV.inj rx2 ⟨u, rfl⟩
    subst ex
    obtain ⟨t, rfl⟩ := rv2
    exact ⟨t, by rw [← hval i _ (hat i c hi)]⟩
  · have e1 : x.cps.size = (x.cps.toList.map fun c => g (.str ⟨#[c]⟩)).length := by simp
    rw [e1, preSum_ints _ _ hval _ (Nat.le_refl _), List.take_length]
    exact ⟨.int _, H2, I3.kept (t' := k) hk, ⟨t', rfl⟩, q3⟩
theorem pd_sumOrd {p0 p2 : Pos} (hms : X.mg "sum" = none) (hmm : X.mg "map" = none) (hmo : X.mg "ord" = none) (ha : PD X T ρ M e (.str x) M1) (hc : X.calm = true := by rfl) (hgs : Gl X "sum" := by rfl) (hg : Gl X "map" := by rfl) (hgo : Gl X "ord" := by rfl)
    (hs1 : starEach [.Call (.Name "map" p) [.Name "ord" apos, e] [] p2] X.env = (false, eval (.Call (.Name "map" p) [.Name "ord" apos, e] [] p2) X.env) :: starEach [] X.env := by rfl)
    (hs : starEach [.Name "ord" apos, e] X.env = (false, eval (.Name "ord" apos) X.env) :: starEach [e] X.env := by rfl) (hse : starEach [e] X.env = (false, eval e X.env) :: starEach [] X.env := by rfl) (hpl : (backTo p2 (starEach [e] X.env)).any (·.1) = false := by rfl) :
    PD X T ρ M (.Call (.Name "sum" p0) [.Call (.Name "map" p) [.Name "ord" apos, e] [] p2] [] pos) (.int (ordL x).sum) M1 :=
  (pe_sumMapS hc hgs hms hg hmm (pf_bltn hgo hmo (by decide +kernel)) ha mapV_ord (fun c => ⟨⟨#[c]⟩, rfl, rfl⟩) hs1 rfl hs hse hpl).imp fun σ H Q ⟨G, hs, sl, k⟩ => ⟨G, hs, sl, fun v G1 H1 st hs1 r => by
    cases r
    refine ⟨x, rfl, ?_⟩
    have e : (x.cps.toList.map fun c => ordV (.str ⟨#[c]⟩)) = ordL x := by
      unfold ordL ordV
      simp
    rw [e]
    exact k _ G1 H1 st hs1 (.int _)⟩
/-! ### try, without a fault -/
theorem pb1_try {body : List Stmt} {h0 : ExceptHandler} {hs : List ExceptHandler} {Nx : List (Option D) → Mem → Prop} {Rt : D → Mem → Prop} (h : PB X.nox T ρ M body Nx Rt) : PB1 X T ρ M (.Try body (h0 :: hs) [] [] pos) Nx Rt := ps_try_thru0 h
theorem pb_try {body rest : List Stmt} {h0 : ExceptHandler} {hs : List ExceptHandler} {Nx Nx1 : List (Option D) → Mem → Prop} {Rt : D → Mem → Prop} (h : PB X.nox T ρ M body Nx1 Rt) (k : ∀ ρ' M', Nx1 ρ' M' → PB X T ρ' M' rest Nx Rt) : PB X T ρ M (.Try body (h0 :: hs) [] [] pos :: rest) Nx Rt :=
  pb_seq (pb1_try h) k
end
end LW

set_option Elab.async false
set_option linter.all false
set_option maxRecDepth 100000
set_option maxHeartbeats 4000000
/-! LZb: y = [elt for tg in iter] by a relation, y a plain local. -/
namespace LW
open PySem PySem.Spec PyProof.Rows L2
open Sem (wp)
section
variable {X : Cx} {T : List Addr} {ρ : List (Option D)} {M M1 M2 M3 : Mem} {d da db : D} {a b c e o elt iter tg : Expr} {pos p p2 tpos : Pos} {ds : List D} {ok : Mem → Prop} {scope : Scope} {g : TG} {is : List Nat} {unp : D → Option (List D)} {own : List (Str × Nat)}
def lcBody (w : World) (T : List Addr) (ρ : List (Option D)) (own : List (Str × Nat)) (is : List Nat) (unp : D → Option (List D)) (ds : List D) (R : Nat → List D → Mem → Prop) : TE := fun σ H Q => ∃ x : Nat × D × List D × List D × Mem, (ds[x.1]? = some x.2.1 ∧ unp x.2.1 = some x.2.2.1 ∧ R x.1 x.2.2.2.1 x.2.2.2.2) ∧ tER w T (setsD (wipeD ρ (own.map (·.2))) is x.2.2.1) x.2.2.2.2 (fun d' m' => R (x.1 + 1) (x.2.2.2.1 ++ [d']) m') σ H Q
theorem lcR_in (R : Nat → List D → Mem → Prop) (ht : Tgt X.w g is unp) (hv : ∀ i ∈ is, i ∈ own.map (·.2))
    (h0 : R 0 [] M1) (hok : ∀ i acc m, R i acc m → ok m) (hl : ∀ i acc m, R i acc m → acc.length ≤ 16000000) (hu : ∀ (i : Nat) (d : D), ds[i]? = some d → ∃ us, unp d = some us) (σ : L2.St) (H : Hp) (Q : VK)
    (h : tER X.w T ρ M (fun d m => ∃ acc, d = .lst acc ∧ R ds.length acc m) σ H Q) : tLc (tI X.w T ρ M ds M1 ok) g tYes (lcBody X.w T ρ own is unp ds R) (own.map (·.2)) σ H Q := by
  obtain ⟨G, hs, sl, k⟩ := h
  unfold lcBody
  generalize own.map (·.2) = vs at *
  refine ⟨G, hs, sl, fun J G1 H1 st1 hs1 it L hL => ?_⟩
  obtain ⟨a1, t1⟩ := hs1.own (ob := .lst []) (o := .lst []) hL (fun _ z => by cases z) fun H' e => ⟨[], e, .nil⟩
  refine ⟨fun i m H' => m = ds.length - i ∧ i ≤ ds.length ∧ ∃ G' acc M', R i acc M' ∧ Step G1 H1 M1 G' H' (M' ++ [some (L, .lst acc)]) ∧ HS X.w T G' H' (M' ++ [some (L, .lst acc)]), ⟨_, rfl, Nat.zero_le _, G1, [], M1, h0, t1, a1⟩, ?_⟩
  rintro i m H' ⟨rfl, hle, G', acc, M', hR, st', hs'⟩
  have hsl : HS X.w T G' H' M' := hs'.left
  have st0 : Step G1 H1 M1 G' H' M' := ⟨st'.up, st'.new, st'.keep, fun a h => st'.adr_ a (by rw [adr_app]; exact List.mem_append_left _ h)⟩
  by_cases hlt : i < ds.length
  · refine .inr ⟨it.go i G' H' _ hlt st0 hsl (hok i acc M' hR), fun H2 => ∃ m', m' < ds.length - i ∧ (m' = ds.length - (i + 1) ∧ i + 1 ≤ ds.length ∧ ∃ G2 acc2 M2, R (i + 1) acc2 M2 ∧ Step G1 H1 M1 G2 H2 (M2 ++ [some (L, .lst acc2)]) ∧ HS X.w T G2 H2 (M2 ++ [some (L, .lst acc2)])), fun H2 q => q, fun x H2 hy => ?_⟩
    have hd' : ds[i]? = some ds[i] := List.getElem?_eq_getElem hlt
    obtain ⟨us, hus⟩ := hu i _ hd'
    obtain ⟨G2, st2, hs2, r⟩ := it.yld i G' H' M' x H2 _ st0 hsl (hok i acc M' hR) hd' hy
    obtain ⟨st2', hs2'⟩ := frame_ok hs' st2 hs2
    refine ht.ok T x (L2.wipe σ vs) G2 H2 M' _ _ us hs2 r hus fun σ3 hsl3 hw => ⟨?_, ?_⟩
    · rw [hw vs hv]
      exact wipe_wipe fun _ h => h
    · dsimp only [tYes]
      rw [if_pos rfl]
      refine ⟨(i, ds[i], us, acc, M'), ⟨hd', hus, hR⟩, G2, hs2, hsl3 _ (((sl.up st1.up).up (st'.up)).up st2.up |>.wipe vs), fun y G5 H5 d5 M5 hR5 st5 hs5 ry => ?_⟩
      obtain ⟨st5', hs5'⟩ := frame_ok hs2' st5 hs5
      obtain ⟨g0, xacc, hacc, racc⟩ := hs5'.mem L (.lst acc) (List.mem_append_right _ List.mem_cons_self)
      have hj : (M5 ++ [some (L, Ob.lst acc)])[M5.length]? = some (some (L, .lst acc)) := by
        rw [List.getElem?_append_right (Nat.le_refl _), Nat.sub_self]
        rfl
      have hset : (M5 ++ [some (L, Ob.lst acc)]).set M5.length (some (L, .lst (acc ++ [d5]))) = M5 ++ [some (L, .lst (acc ++ [d5]))] := by
        rw [List.set_append_right _ _ (Nat.le_refl _), Nat.sub_self]
        rfl
      obtain ⟨a6, t6⟩ := hs5'.put (ob' := .lst (acc ++ [d5])) (o := .lst (xacc ++ [y])) hj (fun _ z => by cases z) fun H' e => ⟨_, e, racc.app (.cons ry .nil)⟩
      rw [hset] at a6 t6
      refine ⟨xacc, hacc, ?_, _, by omega, rfl, hlt, G5, acc ++ [d5], M5, hR5, (((st'.trans st2').trans st5').trans t6), a6⟩
      have := hl i acc M' hR
      rw [racc.length]
      show acc.length < 16777216
      omega
  · have e : i = ds.length := Nat.le_antisymm hle (Nat.le_of_not_lt hlt)
    subst e
    refine .inl ⟨it.stop G' H' _ st0 hsl (hok _ _ _ hR), ?_⟩
    obtain ⟨g0, xacc, hacc, racc⟩ := hs'.mem L (.lst acc) (List.mem_append_right _ List.mem_cons_self)
    have hj : (M' ++ [some (L, Ob.lst acc)])[M'.length]? = some (some (L, .lst acc)) := by
      rw [List.getElem?_append_right (Nat.le_refl _), Nat.sub_self]
      rfl
    obtain ⟨a6, t6⟩ := hs'.freeze hj hacc fun _ z => by cases z
    have hset : (M' ++ [some (L, Ob.lst acc)]).set M'.length none = M' ++ [none] := by
      rw [List.set_append_right _ _ (Nat.le_refl _), Nat.sub_self]
      rfl
    rw [hset] at a6 t6
    have t7 := (st1.trans st').trans t6
    exact k (.ref L) _ H' _ _ ⟨acc, rfl, hR⟩ ⟨t7.up, t7.new, t7.keep, fun a h => t7.adr_ a (by rw [adr_app]; exact List.mem_append_left _ h)⟩ a6.left (.lst upd_same (racc.up (up_upd g0)))
theorem pb_setLcR {rest : List Stmt} {Nx : List (Option D) → Mem → Prop} {Rt : D → Mem → Prop} (i : Nat) {y : Str} {py spos : Pos} (R : Nat → List D → Mem → Prop) (hi : PDI X T ρ M tg iter ds M1 ok) (hN : X.N.Nodup) (bk : BlkOk X.N X.env.scope scope own) (hg : Blks X scope fun X' => PG X' tg g) (ht : Tgt X.w g is unp) (hv : ∀ i ∈ is, i ∈ own.map (·.2))
    (h0 : R 0 [] M1) (hok : ∀ i acc m, R i acc m → ok m) (hl : ∀ i acc m, R i acc m → acc.length ≤ 16000000) (hu : ∀ (i : Nat) (d : D), ds[i]? = some d → ∃ us, unp d = some us)
    (hee : ∀ (i : Nat) (d : D) (us : List D) acc m, ds[i]? = some d → unp d = some us → R i acc m → Blks X scope fun X' => PDR X' T (setsD (wipeD ρ (own.map (·.2))) is us) m elt (fun d' m' => R (i + 1) (acc ++ [d']) m'))
    (k : ∀ acc m, R ds.length acc m → PB X T (ρ.set i (some (.lst acc))) m rest Nx Rt)
    (hy : X.N[i]? = some y := by rfl) (hyl : X.env.scope.names.lookup y = some .local := by rfl) (hsw : swapsWith (.ListComp elt [⟨tg, iter, [], 0⟩] scope pos) (some (.Name y py)) spos.line X.env = pure true := by exact sw_true rfl rfl rfl (by decide +kernel))
    (hc : X.calm = true := by rfl) (hs : ∀ x, foldedSetIterable iter X.env x = pure x := by intro _; rfl) : PB X T ρ M (.Assign [.Name y py] (.ListComp elt [⟨tg, iter, [], 0⟩] scope pos) spos :: rest) Nx Rt := by
  have hbody : Blks X scope fun X' => PE X' elt (lcBody X.w T ρ own is unp ds R) := fun s H C cl fp =>
    PE.ex fun x => PE.exB fun q => hee x.1 x.2.1 x.2.2.1 x.2.2.2.1 x.2.2.2.2 q.1 q.2.1 q.2.2 s H C cl fp
  refine pb_seq (Nx1 := fun ρ' M' => ∃ acc, ρ' = ρ.set i (some (.lst acc)) ∧ R ds.length acc M') (PS.imp (ps_setLc hc hN hy hyl hsw hi bk hg (fun s H C cl fp => pts_nil) hbody hs) fun D σ H ⟨G, hs, sl, k1, k2⟩ => ?_) fun ρ' M' ⟨acc, e1, e2⟩ => by subst e1; exact k acc M' e2
  exact lcR_in R ht hv h0 hok hl hu σ H _ ⟨G, hs, sl, fun v G' H' d m ⟨acc, e, hR⟩ st hs' r => by subst e; exact k1 _ G' H' _ _ ⟨acc, rfl, hR⟩ st hs' ((sl.up st.up).set i r)⟩
end
end LW

set_option Elab.async false
set_option linter.all false
set_option maxRecDepth 100000
set_option maxHeartbeats 0
/-! the head of lessonwright_k66_trees_said_to_a_desk: defs as data, facts, the run. Printed by mkhead.py. -/
namespace H66
open PySem PySem.Spec PyProof.Rows L2 LW
def top (i : Nat) : Stmt := PySem.Challenge.pw_lessonwright_k66_trees_said_to_a_desk.main.body.getD i (.Pass ⟨0, 0, 0, 0⟩)
abbrev s_check_point : Stmt := top 9
abbrev s_check_examples : Stmt := top 10
abbrev s_has : Stmt := top 12
abbrev s_size : Stmt := top 13
abbrev s_depth : Stmt := top 14
abbrev s_table_key : Stmt := top 15
abbrev s_halves : Stmt := top 16
abbrev s_cost_of : Stmt := top 17
abbrev s_best : Stmt := top 18
abbrev s_grown : Stmt := top 19
abbrev s_Counts_init : Stmt := inClass (top 21) 0
abbrev s_Counts_put : Stmt := inClass (top 21) 1
abbrev s_Counts_take : Stmt := inClass (top 21) 2
abbrev s_Counts_can_take : Stmt := inClass (top 21) 3
abbrev s_Counts_answers : Stmt := inClass (top 21) 4
abbrev s_Counts_weight : Stmt := inClass (top 21) 5
abbrev s_Counts_likeliest : Stmt := inClass (top 21) 6
abbrev s_Ladder_init : Stmt := inClass (top 23) 0
abbrev s_next_step : Stmt := top 24
abbrev s_learned_ladder : Stmt := top 25
abbrev s_number : Stmt := top 30
abbrev s_point_of : Stmt := top 31
abbrev s_answer_of : Stmt := top 32
abbrev s_said : Stmt := top 33
abbrev s_told_tree : Stmt := top 34
abbrev s_told_ladder : Stmt := top 35
abbrev s_figure_of : Stmt := top 36
abbrev s_Desk_init : Stmt := inClass (top 37) 0
abbrev s_Desk_say : Stmt := inClass (top 37) 1
abbrev s_Desk_do : Stmt := inClass (top 37) 2
abbrev s_Desk_places : Stmt := inClass (top 37) 3
abbrev s_Desk_here : Stmt := inClass (top 37) 4
abbrev s_Desk_in_order : Stmt := inClass (top 37) 5
abbrev s_Desk_smallest : Stmt := inClass (top 37) 6
abbrev s_Desk_begin : Stmt := inClass (top 37) 7
abbrev s_Desk_see : Stmt := inClass (top 37) 8
abbrev s_Desk_drop : Stmt := inClass (top 37) 9
abbrev s_Desk_written : Stmt := inClass (top 37) 10
abbrev s_law_dice : Stmt := top 39
abbrev s_law_roll : Stmt := top 40
abbrev s_law_rounds : Stmt := top 41
abbrev s_law_least : Stmt := top 42
abbrev s_law : Stmt := top 43
def d_check_point : He.DefD := ⟨("check_point", none), "check_point", "check_point", defArgs s_check_point, defBody s_check_point, defScope s_check_point, [], []⟩
def d_check_examples : He.DefD := ⟨("check_examples", none), "check_examples", "check_examples", defArgs s_check_examples, defBody s_check_examples, defScope s_check_examples, [], []⟩
def d_has : He.DefD := ⟨("has", none), "has", "has", defArgs s_has, defBody s_has, defScope s_has, [], []⟩
def d_size : He.DefD := ⟨("size", none), "size", "size", defArgs s_size, defBody s_size, defScope s_size, [], []⟩
def d_depth : He.DefD := ⟨("depth", none), "depth", "depth", defArgs s_depth, defBody s_depth, defScope s_depth, [], []⟩
def d_table_key : He.DefD := ⟨("table_key", none), "table_key", "table_key", defArgs s_table_key, defBody s_table_key, defScope s_table_key, [], []⟩
def d_halves : He.DefD := ⟨("halves", none), "halves", "halves", defArgs s_halves, defBody s_halves, defScope s_halves, [], []⟩
def d_cost_of : He.DefD := ⟨("cost_of", none), "cost_of", "cost_of", defArgs s_cost_of, defBody s_cost_of, defScope s_cost_of, [], []⟩
def d_best : He.DefD := ⟨("best", none), "best", "best", defArgs s_best, defBody s_best, defScope s_best, [.bl false], []⟩
def d_grown : He.DefD := ⟨("grown", none), "grown", "grown", defArgs s_grown, defBody s_grown, defScope s_grown, [], []⟩
def d_Counts_init : He.DefD := ⟨("Counts", some "__init__"), "__init__", "Counts.__init__", defArgs s_Counts_init, defBody s_Counts_init, defScope s_Counts_init, [], []⟩
def d_Counts_put : He.DefD := ⟨("Counts", some "put"), "put", "Counts.put", defArgs s_Counts_put, defBody s_Counts_put, defScope s_Counts_put, [], []⟩
def d_Counts_take : He.DefD := ⟨("Counts", some "take"), "take", "Counts.take", defArgs s_Counts_take, defBody s_Counts_take, defScope s_Counts_take, [], []⟩
def d_Counts_can_take : He.DefD := ⟨("Counts", some "can_take"), "can_take", "Counts.can_take", defArgs s_Counts_can_take, defBody s_Counts_can_take, defScope s_Counts_can_take, [], []⟩
def d_Counts_answers : He.DefD := ⟨("Counts", some "answers"), "answers", "Counts.answers", defArgs s_Counts_answers, defBody s_Counts_answers, defScope s_Counts_answers, [], []⟩
def d_Counts_weight : He.DefD := ⟨("Counts", some "weight"), "weight", "Counts.weight", defArgs s_Counts_weight, defBody s_Counts_weight, defScope s_Counts_weight, [], []⟩
def d_Counts_likeliest : He.DefD := ⟨("Counts", some "likeliest"), "likeliest", "Counts.likeliest", defArgs s_Counts_likeliest, defBody s_Counts_likeliest, defScope s_Counts_likeliest, [], []⟩
def d_Ladder_init : He.DefD := ⟨("Ladder", some "__init__"), "__init__", "Ladder.__init__", defArgs s_Ladder_init, defBody s_Ladder_init, defScope s_Ladder_init, [], []⟩
def d_next_step : He.DefD := ⟨("next_step", none), "next_step", "next_step", defArgs s_next_step, defBody s_next_step, defScope s_next_step, [], []⟩
def d_learned_ladder : He.DefD := ⟨("learned_ladder", none), "learned_ladder", "learned_ladder", defArgs s_learned_ladder, defBody s_learned_ladder, defScope s_learned_ladder, [], []⟩
def d_number : He.DefD := ⟨("number", none), "number", "number", defArgs s_number, defBody s_number, defScope s_number, [], []⟩
def d_point_of : He.DefD := ⟨("point_of", none), "point_of", "point_of", defArgs s_point_of, defBody s_point_of, defScope s_point_of, [], []⟩
def d_answer_of : He.DefD := ⟨("answer_of", none), "answer_of", "answer_of", defArgs s_answer_of, defBody s_answer_of, defScope s_answer_of, [], []⟩
def d_said : He.DefD := ⟨("said", none), "said", "said", defArgs s_said, defBody s_said, defScope s_said, [], []⟩
def d_told_tree : He.DefD := ⟨("told_tree", none), "told_tree", "told_tree", defArgs s_told_tree, defBody s_told_tree, defScope s_told_tree, [], []⟩
def d_told_ladder : He.DefD := ⟨("told_ladder", none), "told_ladder", "told_ladder", defArgs s_told_ladder, defBody s_told_ladder, defScope s_told_ladder, [], []⟩
def d_figure_of : He.DefD := ⟨("figure_of", none), "figure_of", "figure_of", defArgs s_figure_of, defBody s_figure_of, defScope s_figure_of, [], []⟩
def d_Desk_init : He.DefD := ⟨("Desk", some "__init__"), "__init__", "Desk.__init__", defArgs s_Desk_init, defBody s_Desk_init, defScope s_Desk_init, [], []⟩
def d_Desk_say : He.DefD := ⟨("Desk", some "say"), "say", "Desk.say", defArgs s_Desk_say, defBody s_Desk_say, defScope s_Desk_say, [], []⟩
def d_Desk_do : He.DefD := ⟨("Desk", some "do"), "do", "Desk.do", defArgs s_Desk_do, defBody s_Desk_do, defScope s_Desk_do, [], []⟩
def d_Desk_places : He.DefD := ⟨("Desk", some "places"), "places", "Desk.places", defArgs s_Desk_places, defBody s_Desk_places, defScope s_Desk_places, [], []⟩
def d_Desk_here : He.DefD := ⟨("Desk", some "here"), "here", "Desk.here", defArgs s_Desk_here, defBody s_Desk_here, defScope s_Desk_here, [], []⟩
def d_Desk_in_order : He.DefD := ⟨("Desk", some "in_order"), "in_order", "Desk.in_order", defArgs s_Desk_in_order, defBody s_Desk_in_order, defScope s_Desk_in_order, [], []⟩
def d_Desk_smallest : He.DefD := ⟨("Desk", some "smallest"), "smallest", "Desk.smallest", defArgs s_Desk_smallest, defBody s_Desk_smallest, defScope s_Desk_smallest, [], []⟩
def d_Desk_begin : He.DefD := ⟨("Desk", some "begin"), "begin", "Desk.begin", defArgs s_Desk_begin, defBody s_Desk_begin, defScope s_Desk_begin, [], []⟩
def d_Desk_see : He.DefD := ⟨("Desk", some "see"), "see", "Desk.see", defArgs s_Desk_see, defBody s_Desk_see, defScope s_Desk_see, [], []⟩
def d_Desk_drop : He.DefD := ⟨("Desk", some "drop"), "drop", "Desk.drop", defArgs s_Desk_drop, defBody s_Desk_drop, defScope s_Desk_drop, [], []⟩
def d_Desk_written : He.DefD := ⟨("Desk", some "written"), "written", "Desk.written", defArgs s_Desk_written, defBody s_Desk_written, defScope s_Desk_written, [], []⟩
def d_law_dice : He.DefD := ⟨("_law_dice", none), "_law_dice", "_law_dice", defArgs s_law_dice, defBody s_law_dice, defScope s_law_dice, [], []⟩
def d_law_roll : He.DefD := ⟨("_law_roll", none), "_law_roll", "_law_roll", defArgs s_law_roll, defBody s_law_roll, defScope s_law_roll, [], []⟩
def d_law_rounds : He.DefD := ⟨("_law_rounds", none), "_law_rounds", "_law_rounds", defArgs s_law_rounds, defBody s_law_rounds, defScope s_law_rounds, [], []⟩
def d_law_least : He.DefD := ⟨("_law_least", none), "_law_least", "_law_least", defArgs s_law_least, defBody s_law_least, defScope s_law_least, [], []⟩
def d_law : He.DefD := ⟨("law", none), "law", "law", defArgs s_law, defBody s_law, defScope s_law, [], []⟩
def fn : List He.DefD := [d_check_point, d_check_examples, d_has, d_size, d_depth, d_table_key, d_halves, d_cost_of, d_best, d_grown, d_Counts_init, d_Counts_put, d_Counts_take, d_Counts_can_take, d_Counts_answers, d_Counts_weight, d_Counts_likeliest, d_Ladder_init, d_next_step, d_learned_ladder, d_number, d_point_of, d_answer_of, d_said, d_told_tree, d_told_ladder, d_figure_of, d_Desk_init, d_Desk_say, d_Desk_do, d_Desk_places, d_Desk_here, d_Desk_in_order, d_Desk_smallest, d_Desk_begin, d_Desk_see, d_Desk_drop, d_Desk_written, d_law_dice, d_law_roll, d_law_rounds, d_law_least, d_law]
def fa : List He.Fa := [
  .glo "check_point", .glo "check_examples", .glo "has", .glo "size", .glo "depth", .glo "table_key", .glo "halves", .glo "cost_of",
  .glo "best", .glo "grown", .glo "next_step", .glo "learned_ladder", .glo "number", .glo "point_of", .glo "answer_of", .glo "said",
  .glo "told_tree", .glo "told_ladder", .glo "figure_of", .glo "_law_dice", .glo "_law_roll", .glo "_law_rounds", .glo "_law_least", .glo "law",
  .glo "Counts", .cls "Counts", .mkr "Counts", .noat "Counts" "many", .noat "Counts" "told", .noat "Counts" "ones", .meth "Counts" "put", .meth "Counts" "take",
  .meth "Counts" "can_take", .meth "Counts" "answers", .meth "Counts" "weight", .meth "Counts" "likeliest", .glo "Ladder", .cls "Ladder", .mkr "Ladder", .noat "Ladder" "steps",
  .noat "Ladder" "last", .glo "Desk", .cls "Desk", .mkr "Desk", .noat "Desk" "many", .noat "Desk" "examples", .noat "Desk" "counts", .noat "Desk" "text",
  .noat "Desk" "lines", .meth "Desk" "say", .meth "Desk" "do", .meth "Desk" "places", .meth "Desk" "here", .meth "Desk" "in_order", .meth "Desk" "smallest", .meth "Desk" "begin",
  .meth "Desk" "see", .meth "Desk" "drop", .meth "Desk" "written", .free "max", .free "min", .free "tuple", .free "sum", .free "len",
  .free "int", .free "range", .free "any", .free "dict", .free "enumerate", .free "sorted", .free "abs", .free "list",
  .free "str", .free "isinstance", .free "ord", .free "bool", .free "map", .free "ValueError",
  .str "FIGURES" "0123456789", .int "BASE" 9973, .int "WIDE" 2000003]
def tf : List He.Defn := [("check_point", none), ("Counts", some "take"), ("figure_of", none)]
/-- what a proof leans on -/
structure Fx (P : Program) (w : World) (K : PySem.W.Frag) (mg : Str → Option Value) (base : Heap) : Prop where
  fa_ : ∀ f ∈ fa, f.ok K = true
  fn_ : ∀ d ∈ fn, ∃ fd, FunD K d.name d.qual d.params d.body d.scope (d.dvs K) (d.kws K) (He.fAd K d.at_) fd
  ns : ∃ h : Heap, K.In h ∧ h.Ns mainGlobals mg
  tb : ∀ p ∈ tf, LamX.TabB base mg (He.cT K p).1 (He.cT K p).2
/-- the tables -/
def Tb (K : PySem.W.Frag) : List Addr := (tf.map (He.cT K)).map (·.2)
section
variable {P : Program} {w : World} {K : PySem.W.Frag} {mg : Str → Option Value} {base : Heap}
theorem Fx.str_FIGURES (F : Fx P w K mg base) : ∃ t, mg "FIGURES" = some (.str "0123456789" t) := let ⟨_, X, G⟩ := F.ns; He.str_ok X G (F.fa_ _ (List.mem_of_getElem? (i := 78) rfl))
theorem Fx.int_BASE (F : Fx P w K mg base) : ∃ t, mg "BASE" = some (.int 9973 t) := let ⟨_, X, G⟩ := F.ns; He.int_ok X G (F.fa_ _ (List.mem_of_getElem? (i := 79) rfl))
theorem Fx.int_WIDE (F : Fx P w K mg base) : ∃ t, mg "WIDE" = some (.int 2000003 t) := let ⟨_, X, G⟩ := F.ns; He.int_ok X G (F.fa_ _ (List.mem_of_getElem? (i := 80) rfl))
theorem Fx.glo_check_point (F : Fx P w K mg base) : mg "check_point" = some (.ref (He.ga K "check_point")) := let ⟨_, X, G⟩ := F.ns; He.glo_ok X G (F.fa_ _ (List.mem_of_getElem? (i := 0) rfl))
theorem Fx.glo_check_examples (F : Fx P w K mg base) : mg "check_examples" = some (.ref (He.ga K "check_examples")) := let ⟨_, X, G⟩ := F.ns; He.glo_ok X G (F.fa_ _ (List.mem_of_getElem? (i := 1) rfl))
theorem Fx.glo_has (F : Fx P w K mg base) : mg "has" = some (.ref (He.ga K "has")) := let ⟨_, X, G⟩ := F.ns; He.glo_ok X G (F.fa_ _ (List.mem_of_getElem? (i := 2) rfl))
theorem Fx.glo_size (F : Fx P w K mg base) : mg "size" = some (.ref (He.ga K "size")) := let ⟨_, X, G⟩ := F.ns; He.glo_ok X G (F.fa_ _ (List.mem_of_getElem? (i := 3) rfl))
theorem Fx.glo_depth (F : Fx P w K mg base) : mg "depth" = some (.ref (He.ga K "depth")) := let ⟨_, X, G⟩ := F.ns; He.glo_ok X G (F.fa_ _ (List.mem_of_getElem? (i := 4) rfl))
theorem Fx.glo_table_key (F : Fx P w K mg base) : mg "table_key" = some (.ref (He.ga K "table_key")) := let ⟨_, X, G⟩ := F.ns; He.glo_ok X G (F.fa_ _ (List.mem_of_getElem? (i := 5) rfl))
theorem Fx.glo_halves (F : Fx P w K mg base) : mg "halves" = some (.ref (He.ga K "halves")) := let ⟨_, X, G⟩ := F.ns; He.glo_ok X G (F.fa_ _ (List.mem_of_getElem? (i := 6) rfl))
theorem Fx.glo_cost_of (F : Fx P w K mg base) : mg "cost_of" = some (.ref (He.ga K "cost_of")) := let ⟨_, X, G⟩ := F.ns; He.glo_ok X G (F.fa_ _ (List.mem_of_getElem? (i := 7) rfl))
theorem Fx.glo_best (F : Fx P w K mg base) : mg "best" = some (.ref (He.ga K "best")) := let ⟨_, X, G⟩ := F.ns; He.glo_ok X G (F.fa_ _ (List.mem_of_getElem? (i := 8) rfl))
theorem Fx.glo_grown (F : Fx P w K mg base) : mg "grown" = some (.ref (He.ga K "grown")) := let ⟨_, X, G⟩ := F.ns; He.glo_ok X G (F.fa_ _ (List.mem_of_getElem? (i := 9) rfl))
theorem Fx.glo_next_step (F : Fx P w K mg base) : mg "next_step" = some (.ref (He.ga K "next_step")) := let ⟨_, X, G⟩ := F.ns; He.glo_ok X G (F.fa_ _ (List.mem_of_getElem? (i := 10) rfl))
theorem Fx.glo_learned_ladder (F : Fx P w K mg base) : mg "learned_ladder" = some (.ref (He.ga K "learned_ladder")) := let ⟨_, X, G⟩ := F.ns; He.glo_ok X G (F.fa_ _ (List.mem_of_getElem? (i := 11) rfl))
theorem Fx.glo_number (F : Fx P w K mg base) : mg "number" = some (.ref (He.ga K "number")) := let ⟨_, X, G⟩ := F.ns; He.glo_ok X G (F.fa_ _ (List.mem_of_getElem? (i := 12) rfl))
theorem Fx.glo_point_of (F : Fx P w K mg base) : mg "point_of" = some (.ref (He.ga K "point_of")) := let ⟨_, X, G⟩ := F.ns; He.glo_ok X G (F.fa_ _ (List.mem_of_getElem? (i := 13) rfl))
theorem Fx.glo_answer_of (F : Fx P w K mg base) : mg "answer_of" = some (.ref (He.ga K "answer_of")) := let ⟨_, X, G⟩ := F.ns; He.glo_ok X G (F.fa_ _ (List.mem_of_getElem? (i := 14) rfl))
theorem Fx.glo_said (F : Fx P w K mg base) : mg "said" = some (.ref (He.ga K "said")) := let ⟨_, X, G⟩ := F.ns; He.glo_ok X G (F.fa_ _ (List.mem_of_getElem? (i := 15) rfl))
theorem Fx.glo_told_tree (F : Fx P w K mg base) : mg "told_tree" = some (.ref (He.ga K "told_tree")) := let ⟨_, X, G⟩ := F.ns; He.glo_ok X G (F.fa_ _ (List.mem_of_getElem? (i := 16) rfl))
theorem Fx.glo_told_ladder (F : Fx P w K mg base) : mg "told_ladder" = some (.ref (He.ga K "told_ladder")) := let ⟨_, X, G⟩ := F.ns; He.glo_ok X G (F.fa_ _ (List.mem_of_getElem? (i := 17) rfl))
theorem Fx.glo_figure_of (F : Fx P w K mg base) : mg "figure_of" = some (.ref (He.ga K "figure_of")) := let ⟨_, X, G⟩ := F.ns; He.glo_ok X G (F.fa_ _ (List.mem_of_getElem? (i := 18) rfl))
theorem Fx.glo_law_dice (F : Fx P w K mg base) : mg "_law_dice" = some (.ref (He.ga K "_law_dice")) := let ⟨_, X, G⟩ := F.ns; He.glo_ok X G (F.fa_ _ (List.mem_of_getElem? (i := 19) rfl))
theorem Fx.glo_law_roll (F : Fx P w K mg base) : mg "_law_roll" = some (.ref (He.ga K "_law_roll")) := let ⟨_, X, G⟩ := F.ns; He.glo_ok X G (F.fa_ _ (List.mem_of_getElem? (i := 20) rfl))
theorem Fx.glo_law_rounds (F : Fx P w K mg base) : mg "_law_rounds" = some (.ref (He.ga K "_law_rounds")) := let ⟨_, X, G⟩ := F.ns; He.glo_ok X G (F.fa_ _ (List.mem_of_getElem? (i := 21) rfl))
theorem Fx.glo_law_least (F : Fx P w K mg base) : mg "_law_least" = some (.ref (He.ga K "_law_least")) := let ⟨_, X, G⟩ := F.ns; He.glo_ok X G (F.fa_ _ (List.mem_of_getElem? (i := 22) rfl))
theorem Fx.glo_law (F : Fx P w K mg base) : mg "law" = some (.ref (He.ga K "law")) := let ⟨_, X, G⟩ := F.ns; He.glo_ok X G (F.fa_ _ (List.mem_of_getElem? (i := 23) rfl))
theorem Fx.glo_Counts (F : Fx P w K mg base) : mg "Counts" = some (.ref (He.ga K "Counts")) := let ⟨_, X, G⟩ := F.ns; He.glo_ok X G (F.fa_ _ (List.mem_of_getElem? (i := 24) rfl))
theorem Fx.cls_Counts (F : Fx P w K mg base) : Cls K (He.ga K "Counts") := He.cls_ok (F.fa_ _ (List.mem_of_getElem? (i := 25) rfl))
theorem Fx.mkr_Counts (F : Fx P w K mg base) : Mk K (He.ga K "Counts") (He.ma K (He.ga K "Counts") "__init__") := He.mkr_ok (F.fa_ _ (List.mem_of_getElem? (i := 26) rfl))
theorem Fx.noat_Counts_many (F : Fx P w K mg base) : NoAttr K (He.ga K "Counts") "many" := He.noat_ok (F.fa_ _ (List.mem_of_getElem? (i := 27) rfl))
theorem Fx.noat_Counts_told (F : Fx P w K mg base) : NoAttr K (He.ga K "Counts") "told" := He.noat_ok (F.fa_ _ (List.mem_of_getElem? (i := 28) rfl))
theorem Fx.noat_Counts_ones (F : Fx P w K mg base) : NoAttr K (He.ga K "Counts") "ones" := He.noat_ok (F.fa_ _ (List.mem_of_getElem? (i := 29) rfl))
theorem Fx.meth_Counts_put (F : Fx P w K mg base) : Meth K (He.ga K "Counts") "put" (He.ma K (He.ga K "Counts") "put") := He.meth_ok (F.fa_ _ (List.mem_of_getElem? (i := 30) rfl))
theorem Fx.meth_Counts_take (F : Fx P w K mg base) : Meth K (He.ga K "Counts") "take" (He.ma K (He.ga K "Counts") "take") := He.meth_ok (F.fa_ _ (List.mem_of_getElem? (i := 31) rfl))
theorem Fx.meth_Counts_can_take (F : Fx P w K mg base) : Meth K (He.ga K "Counts") "can_take" (He.ma K (He.ga K "Counts") "can_take") := He.meth_ok (F.fa_ _ (List.mem_of_getElem? (i := 32) rfl))
theorem Fx.meth_Counts_answers (F : Fx P w K mg base) : Meth K (He.ga K "Counts") "answers" (He.ma K (He.ga K "Counts") "answers") := He.meth_ok (F.fa_ _ (List.mem_of_getElem? (i := 33) rfl))
theorem Fx.meth_Counts_weight (F : Fx P w K mg base) : Meth K (He.ga K "Counts") "weight" (He.ma K (He.ga K "Counts") "weight") := He.meth_ok (F.fa_ _ (List.mem_of_getElem? (i := 34) rfl))
theorem Fx.meth_Counts_likeliest (F : Fx P w K mg base) : Meth K (He.ga K "Counts") "likeliest" (He.ma K (He.ga K "Counts") "likeliest") := He.meth_ok (F.fa_ _ (List.mem_of_getElem? (i := 35) rfl))
theorem Fx.glo_Ladder (F : Fx P w K mg base) : mg "Ladder" = some (.ref (He.ga K "Ladder")) := let ⟨_, X, G⟩ := F.ns; He.glo_ok X G (F.fa_ _ (List.mem_of_getElem? (i := 36) rfl))
theorem Fx.cls_Ladder (F : Fx P w K mg base) : Cls K (He.ga K "Ladder") := He.cls_ok (F.fa_ _ (List.mem_of_getElem? (i := 37) rfl))
theorem Fx.mkr_Ladder (F : Fx P w K mg base) : Mk K (He.ga K "Ladder") (He.ma K (He.ga K "Ladder") "__init__") := He.mkr_ok (F.fa_ _ (List.mem_of_getElem? (i := 38) rfl))
theorem Fx.noat_Ladder_steps (F : Fx P w K mg base) : NoAttr K (He.ga K "Ladder") "steps" := He.noat_ok (F.fa_ _ (List.mem_of_getElem? (i := 39) rfl))
theorem Fx.noat_Ladder_last (F : Fx P w K mg base) : NoAttr K (He.ga K "Ladder") "last" := He.noat_ok (F.fa_ _ (List.mem_of_getElem? (i := 40) rfl))
theorem Fx.glo_Desk (F : Fx P w K mg base) : mg "Desk" = some (.ref (He.ga K "Desk")) := let ⟨_, X, G⟩ := F.ns; He.glo_ok X G (F.fa_ _ (List.mem_of_getElem? (i := 41) rfl))
theorem Fx.cls_Desk (F : Fx P w K mg base) : Cls K (He.ga K "Desk") := He.cls_ok (F.fa_ _ (List.mem_of_getElem? (i := 42) rfl))
theorem Fx.mkr_Desk (F : Fx P w K mg base) : Mk K (He.ga K "Desk") (He.ma K (He.ga K "Desk") "__init__") := He.mkr_ok (F.fa_ _ (List.mem_of_getElem? (i := 43) rfl))
theorem Fx.noat_Desk_many (F : Fx P w K mg base) : NoAttr K (He.ga K "Desk") "many" := He.noat_ok (F.fa_ _ (List.mem_of_getElem? (i := 44) rfl))
theorem Fx.noat_Desk_examples (F : Fx P w K mg base) : NoAttr K (He.ga K "Desk") "examples" := He.noat_ok (F.fa_ _ (List.mem_of_getElem? (i := 45) rfl))
theorem Fx.noat_Desk_counts (F : Fx P w K mg base) : NoAttr K (He.ga K "Desk") "counts" := He.noat_ok (F.fa_ _ (List.mem_of_getElem? (i := 46) rfl))
theorem Fx.noat_Desk_text (F : Fx P w K mg base) : NoAttr K (He.ga K "Desk") "text" := He.noat_ok (F.fa_ _ (List.mem_of_getElem? (i := 47) rfl))
theorem Fx.noat_Desk_lines (F : Fx P w K mg base) : NoAttr K (He.ga K "Desk") "lines" := He.noat_ok (F.fa_ _ (List.mem_of_getElem? (i := 48) rfl))
theorem Fx.meth_Desk_say (F : Fx P w K mg base) : Meth K (He.ga K "Desk") "say" (He.ma K (He.ga K "Desk") "say") := He.meth_ok (F.fa_ _ (List.mem_of_getElem? (i := 49) rfl))
theorem Fx.meth_Desk_do (F : Fx P w K mg base) : Meth K (He.ga K "Desk") "do" (He.ma K (He.ga K "Desk") "do") := He.meth_ok (F.fa_ _ (List.mem_of_getElem? (i := 50) rfl))
theorem Fx.meth_Desk_places (F : Fx P w K mg base) : Meth K (He.ga K "Desk") "places" (He.ma K (He.ga K "Desk") "places") := He.meth_ok (F.fa_ _ (List.mem_of_getElem? (i := 51) rfl))
theorem Fx.meth_Desk_here (F : Fx P w K mg base) : Meth K (He.ga K "Desk") "here" (He.ma K (He.ga K "Desk") "here") := He.meth_ok (F.fa_ _ (List.mem_of_getElem? (i := 52) rfl))
theorem Fx.meth_Desk_in_order (F : Fx P w K mg base) : Meth K (He.ga K "Desk") "in_order" (He.ma K (He.ga K "Desk") "in_order") := He.meth_ok (F.fa_ _ (List.mem_of_getElem? (i := 53) rfl))
theorem Fx.meth_Desk_smallest (F : Fx P w K mg base) : Meth K (He.ga K "Desk") "smallest" (He.ma K (He.ga K "Desk") "smallest") := He.meth_ok (F.fa_ _ (List.mem_of_getElem? (i := 54) rfl))
theorem Fx.meth_Desk_begin (F : Fx P w K mg base) : Meth K (He.ga K "Desk") "begin" (He.ma K (He.ga K "Desk") "begin") := He.meth_ok (F.fa_ _ (List.mem_of_getElem? (i := 55) rfl))
theorem Fx.meth_Desk_see (F : Fx P w K mg base) : Meth K (He.ga K "Desk") "see" (He.ma K (He.ga K "Desk") "see") := He.meth_ok (F.fa_ _ (List.mem_of_getElem? (i := 56) rfl))
theorem Fx.meth_Desk_drop (F : Fx P w K mg base) : Meth K (He.ga K "Desk") "drop" (He.ma K (He.ga K "Desk") "drop") := He.meth_ok (F.fa_ _ (List.mem_of_getElem? (i := 57) rfl))
theorem Fx.meth_Desk_written (F : Fx P w K mg base) : Meth K (He.ga K "Desk") "written" (He.ma K (He.ga K "Desk") "written") := He.meth_ok (F.fa_ _ (List.mem_of_getElem? (i := 58) rfl))
theorem Fx.free_max (F : Fx P w K mg base) : mg "max" = none := let ⟨_, X, G⟩ := F.ns; He.free_ok X G (F.fa_ _ (List.mem_of_getElem? (i := 59) rfl))
theorem Fx.free_min (F : Fx P w K mg base) : mg "min" = none := let ⟨_, X, G⟩ := F.ns; He.free_ok X G (F.fa_ _ (List.mem_of_getElem? (i := 60) rfl))
theorem Fx.free_tuple (F : Fx P w K mg base) : mg "tuple" = none := let ⟨_, X, G⟩ := F.ns; He.free_ok X G (F.fa_ _ (List.mem_of_getElem? (i := 61) rfl))
theorem Fx.free_sum (F : Fx P w K mg base) : mg "sum" = none := let ⟨_, X, G⟩ := F.ns; He.free_ok X G (F.fa_ _ (List.mem_of_getElem? (i := 62) rfl))
theorem Fx.free_len (F : Fx P w K mg base) : mg "len" = none := let ⟨_, X, G⟩ := F.ns; He.free_ok X G (F.fa_ _ (List.mem_of_getElem? (i := 63) rfl))
theorem Fx.free_int (F : Fx P w K mg base) : mg "int" = none := let ⟨_, X, G⟩ := F.ns; He.free_ok X G (F.fa_ _ (List.mem_of_getElem? (i := 64) rfl))
theorem Fx.free_range (F : Fx P w K mg base) : mg "range" = none := let ⟨_, X, G⟩ := F.ns; He.free_ok X G (F.fa_ _ (List.mem_of_getElem? (i := 65) rfl))
theorem Fx.free_any (F : Fx P w K mg base) : mg "any" = none := let ⟨_, X, G⟩ := F.ns; He.free_ok X G (F.fa_ _ (List.mem_of_getElem? (i := 66) rfl))
theorem Fx.free_dict (F : Fx P w K mg base) : mg "dict" = none := let ⟨_, X, G⟩ := F.ns; He.free_ok X G (F.fa_ _ (List.mem_of_getElem? (i := 67) rfl))
theorem Fx.free_enumerate (F : Fx P w K mg base) : mg "enumerate" = none := let ⟨_, X, G⟩ := F.ns; He.free_ok X G (F.fa_ _ (List.mem_of_getElem? (i := 68) rfl))
theorem Fx.free_sorted (F : Fx P w K mg base) : mg "sorted" = none := let ⟨_, X, G⟩ := F.ns; He.free_ok X G (F.fa_ _ (List.mem_of_getElem? (i := 69) rfl))
theorem Fx.free_abs (F : Fx P w K mg base) : mg "abs" = none := let ⟨_, X, G⟩ := F.ns; He.free_ok X G (F.fa_ _ (List.mem_of_getElem? (i := 70) rfl))
theorem Fx.free_list (F : Fx P w K mg base) : mg "list" = none := let ⟨_, X, G⟩ := F.ns; He.free_ok X G (F.fa_ _ (List.mem_of_getElem? (i := 71) rfl))
theorem Fx.free_str (F : Fx P w K mg base) : mg "str" = none := let ⟨_, X, G⟩ := F.ns; He.free_ok X G (F.fa_ _ (List.mem_of_getElem? (i := 72) rfl))
theorem Fx.free_isinstance (F : Fx P w K mg base) : mg "isinstance" = none := let ⟨_, X, G⟩ := F.ns; He.free_ok X G (F.fa_ _ (List.mem_of_getElem? (i := 73) rfl))
theorem Fx.free_ord (F : Fx P w K mg base) : mg "ord" = none := let ⟨_, X, G⟩ := F.ns; He.free_ok X G (F.fa_ _ (List.mem_of_getElem? (i := 74) rfl))
theorem Fx.free_bool (F : Fx P w K mg base) : mg "bool" = none := let ⟨_, X, G⟩ := F.ns; He.free_ok X G (F.fa_ _ (List.mem_of_getElem? (i := 75) rfl))
theorem Fx.free_map (F : Fx P w K mg base) : mg "map" = none := let ⟨_, X, G⟩ := F.ns; He.free_ok X G (F.fa_ _ (List.mem_of_getElem? (i := 76) rfl))
theorem Fx.free_ValueError (F : Fx P w K mg base) : mg "ValueError" = none := let ⟨_, X, G⟩ := F.ns; He.free_ok X G (F.fa_ _ (List.mem_of_getElem? (i := 77) rfl))
theorem Fx.fn_check_point (F : Fx P w K mg base) : ∃ fd, FunC K "check_point" "check_point" s_check_point (He.fAd K ("check_point", none)) fd (.ref (He.codeOf K ("check_point", none))) ∧ Binds K fd ["point", "many"] [] := by
  obtain ⟨fd, h⟩ := F.fn_ _ (List.mem_of_getElem? (i := 0) rfl)
  exact ⟨fd, funC_of (p := ("check_point", none)) h, FunD.bindsN h fun _ _ _ _ _ _ us hl => match us, hl with | [_, _], _ => rfl⟩
theorem Fx.fn_check_examples (F : Fx P w K mg base) : ∃ fd, FunC K "check_examples" "check_examples" s_check_examples (He.fAd K ("check_examples", none)) fd (.ref (He.codeOf K ("check_examples", none))) ∧ Binds K fd ["examples", "many"] [] := by
  obtain ⟨fd, h⟩ := F.fn_ _ (List.mem_of_getElem? (i := 1) rfl)
  exact ⟨fd, funC_of (p := ("check_examples", none)) h, FunD.bindsN h fun _ _ _ _ _ _ us hl => match us, hl with | [_, _], _ => rfl⟩
theorem Fx.fn_has (F : Fx P w K mg base) : ∃ fd, FunC K "has" "has" s_has (He.fAd K ("has", none)) fd (.ref (He.codeOf K ("has", none))) ∧ Binds K fd ["tree", "point"] [] := by
  obtain ⟨fd, h⟩ := F.fn_ _ (List.mem_of_getElem? (i := 2) rfl)
  exact ⟨fd, funC_of (p := ("has", none)) h, FunD.bindsN h fun _ _ _ _ _ _ us hl => match us, hl with | [_, _], _ => rfl⟩
theorem Fx.fn_size (F : Fx P w K mg base) : ∃ fd, FunC K "size" "size" s_size (He.fAd K ("size", none)) fd (.ref (He.codeOf K ("size", none))) ∧ Binds K fd ["tree"] [] := by
  obtain ⟨fd, h⟩ := F.fn_ _ (List.mem_of_getElem? (i := 3) rfl)
  exact ⟨fd, funC_of (p := ("size", none)) h, FunD.bindsN h fun _ _ _ _ _ _ us hl => match us, hl with | [_], _ => rfl⟩
theorem Fx.fn_depth (F : Fx P w K mg base) : ∃ fd, FunC K "depth" "depth" s_depth (He.fAd K ("depth", none)) fd (.ref (He.codeOf K ("depth", none))) ∧ Binds K fd ["tree"] [] := by
  obtain ⟨fd, h⟩ := F.fn_ _ (List.mem_of_getElem? (i := 4) rfl)
  exact ⟨fd, funC_of (p := ("depth", none)) h, FunD.bindsN h fun _ _ _ _ _ _ us hl => match us, hl with | [_], _ => rfl⟩
theorem Fx.fn_table_key (F : Fx P w K mg base) : ∃ fd, FunC K "table_key" "table_key" s_table_key (He.fAd K ("table_key", none)) fd (.ref (He.codeOf K ("table_key", none))) ∧ Binds K fd ["table"] [] := by
  obtain ⟨fd, h⟩ := F.fn_ _ (List.mem_of_getElem? (i := 5) rfl)
  exact ⟨fd, funC_of (p := ("table_key", none)) h, FunD.bindsN h fun _ _ _ _ _ _ us hl => match us, hl with | [_], _ => rfl⟩
theorem Fx.fn_halves (F : Fx P w K mg base) : ∃ fd, FunC K "halves" "halves" s_halves (He.fAd K ("halves", none)) fd (.ref (He.codeOf K ("halves", none))) ∧ Binds K fd ["table", "place"] [] := by
  obtain ⟨fd, h⟩ := F.fn_ _ (List.mem_of_getElem? (i := 6) rfl)
  exact ⟨fd, funC_of (p := ("halves", none)) h, FunD.bindsN h fun _ _ _ _ _ _ us hl => match us, hl with | [_, _], _ => rfl⟩
theorem Fx.fn_cost_of (F : Fx P w K mg base) : ∃ fd, FunC K "cost_of" "cost_of" s_cost_of (He.fAd K ("cost_of", none)) fd (.ref (He.codeOf K ("cost_of", none))) ∧ Binds K fd ["table", "many", "flat", "found"] [] := by
  obtain ⟨fd, h⟩ := F.fn_ _ (List.mem_of_getElem? (i := 7) rfl)
  exact ⟨fd, funC_of (p := ("cost_of", none)) h, FunD.bindsN h fun _ _ _ _ _ _ us hl => match us, hl with | [_, _, _, _], _ => rfl⟩
theorem Fx.fn_best (F : Fx P w K mg base) : ∃ fd, FunD K "best" "best" (defArgs s_best) (defBody s_best) (defScope s_best) (d_best.dvs K) (d_best.kws K) (He.fAd K ("best", none)) fd ∧ FunC K "best" "best" s_best (He.fAd K ("best", none)) fd (.ref (He.codeOf K ("best", none))) := by
  obtain ⟨fd, h⟩ := F.fn_ _ (List.mem_of_getElem? (i := 8) rfl)
  exact ⟨fd, h, funC_of (p := ("best", none)) h⟩
theorem Fx.fn_grown (F : Fx P w K mg base) : ∃ fd, FunC K "grown" "grown" s_grown (He.fAd K ("grown", none)) fd (.ref (He.codeOf K ("grown", none))) ∧ Binds K fd ["table", "many", "flat", "found"] [] := by
  obtain ⟨fd, h⟩ := F.fn_ _ (List.mem_of_getElem? (i := 9) rfl)
  exact ⟨fd, funC_of (p := ("grown", none)) h, FunD.bindsN h fun _ _ _ _ _ _ us hl => match us, hl with | [_, _, _, _], _ => rfl⟩
theorem Fx.fn_Counts_init (F : Fx P w K mg base) : ∃ fd, FunC K "__init__" "Counts.__init__" s_Counts_init (He.fAd K ("Counts", some "__init__")) fd (.ref (He.codeOf K ("Counts", some "__init__"))) ∧ Binds K fd ["self", "many"] [] := by
  obtain ⟨fd, h⟩ := F.fn_ _ (List.mem_of_getElem? (i := 10) rfl)
  exact ⟨fd, funC_of (p := ("Counts", some "__init__")) h, FunD.bindsN h fun _ _ _ _ _ _ us hl => match us, hl with | [_, _], _ => rfl⟩
theorem Fx.fn_Counts_put (F : Fx P w K mg base) : ∃ fd, FunC K "put" "Counts.put" s_Counts_put (He.fAd K ("Counts", some "put")) fd (.ref (He.codeOf K ("Counts", some "put"))) ∧ Binds K fd ["self", "point", "answer"] [] := by
  obtain ⟨fd, h⟩ := F.fn_ _ (List.mem_of_getElem? (i := 11) rfl)
  exact ⟨fd, funC_of (p := ("Counts", some "put")) h, FunD.bindsN h fun _ _ _ _ _ _ us hl => match us, hl with | [_, _, _], _ => rfl⟩
theorem Fx.fn_Counts_take (F : Fx P w K mg base) : ∃ fd, FunC K "take" "Counts.take" s_Counts_take (He.fAd K ("Counts", some "take")) fd (.ref (He.codeOf K ("Counts", some "take"))) ∧ Binds K fd ["self", "point", "answer"] [] := by
  obtain ⟨fd, h⟩ := F.fn_ _ (List.mem_of_getElem? (i := 12) rfl)
  exact ⟨fd, funC_of (p := ("Counts", some "take")) h, FunD.bindsN h fun _ _ _ _ _ _ us hl => match us, hl with | [_, _, _], _ => rfl⟩
theorem Fx.fn_Counts_can_take (F : Fx P w K mg base) : ∃ fd, FunC K "can_take" "Counts.can_take" s_Counts_can_take (He.fAd K ("Counts", some "can_take")) fd (.ref (He.codeOf K ("Counts", some "can_take"))) ∧ Binds K fd ["self", "answer", "place", "bit"] [] := by
  obtain ⟨fd, h⟩ := F.fn_ _ (List.mem_of_getElem? (i := 13) rfl)
  exact ⟨fd, funC_of (p := ("Counts", some "can_take")) h, FunD.bindsN h fun _ _ _ _ _ _ us hl => match us, hl with | [_, _, _, _], _ => rfl⟩
theorem Fx.fn_Counts_answers (F : Fx P w K mg base) : ∃ fd, FunC K "answers" "Counts.answers" s_Counts_answers (He.fAd K ("Counts", some "answers")) fd (.ref (He.codeOf K ("Counts", some "answers"))) ∧ Binds K fd ["self"] [] := by
  obtain ⟨fd, h⟩ := F.fn_ _ (List.mem_of_getElem? (i := 14) rfl)
  exact ⟨fd, funC_of (p := ("Counts", some "answers")) h, FunD.bindsN h fun _ _ _ _ _ _ us hl => match us, hl with | [_], _ => rfl⟩
theorem Fx.fn_Counts_weight (F : Fx P w K mg base) : ∃ fd, FunC K "weight" "Counts.weight" s_Counts_weight (He.fAd K ("Counts", some "weight")) fd (.ref (He.codeOf K ("Counts", some "weight"))) ∧ Binds K fd ["self", "answer", "point"] [] := by
  obtain ⟨fd, h⟩ := F.fn_ _ (List.mem_of_getElem? (i := 15) rfl)
  exact ⟨fd, funC_of (p := ("Counts", some "weight")) h, FunD.bindsN h fun _ _ _ _ _ _ us hl => match us, hl with | [_, _, _], _ => rfl⟩
theorem Fx.fn_Counts_likeliest (F : Fx P w K mg base) : ∃ fd, FunC K "likeliest" "Counts.likeliest" s_Counts_likeliest (He.fAd K ("Counts", some "likeliest")) fd (.ref (He.codeOf K ("Counts", some "likeliest"))) ∧ Binds K fd ["self", "point"] [] := by
  obtain ⟨fd, h⟩ := F.fn_ _ (List.mem_of_getElem? (i := 16) rfl)
  exact ⟨fd, funC_of (p := ("Counts", some "likeliest")) h, FunD.bindsN h fun _ _ _ _ _ _ us hl => match us, hl with | [_, _], _ => rfl⟩
theorem Fx.fn_Ladder_init (F : Fx P w K mg base) : ∃ fd, FunC K "__init__" "Ladder.__init__" s_Ladder_init (He.fAd K ("Ladder", some "__init__")) fd (.ref (He.codeOf K ("Ladder", some "__init__"))) ∧ Binds K fd ["self", "steps", "last"] [] := by
  obtain ⟨fd, h⟩ := F.fn_ _ (List.mem_of_getElem? (i := 17) rfl)
  exact ⟨fd, funC_of (p := ("Ladder", some "__init__")) h, FunD.bindsN h fun _ _ _ _ _ _ us hl => match us, hl with | [_, _, _], _ => rfl⟩
theorem Fx.fn_next_step (F : Fx P w K mg base) : ∃ fd, FunC K "next_step" "next_step" s_next_step (He.fAd K ("next_step", none)) fd (.ref (He.codeOf K ("next_step", none))) ∧ Binds K fd ["left", "many"] [] := by
  obtain ⟨fd, h⟩ := F.fn_ _ (List.mem_of_getElem? (i := 18) rfl)
  exact ⟨fd, funC_of (p := ("next_step", none)) h, FunD.bindsN h fun _ _ _ _ _ _ us hl => match us, hl with | [_, _], _ => rfl⟩
theorem Fx.fn_learned_ladder (F : Fx P w K mg base) : ∃ fd, FunC K "learned_ladder" "learned_ladder" s_learned_ladder (He.fAd K ("learned_ladder", none)) fd (.ref (He.codeOf K ("learned_ladder", none))) ∧ Binds K fd ["examples", "many"] [] := by
  obtain ⟨fd, h⟩ := F.fn_ _ (List.mem_of_getElem? (i := 19) rfl)
  exact ⟨fd, funC_of (p := ("learned_ladder", none)) h, FunD.bindsN h fun _ _ _ _ _ _ us hl => match us, hl with | [_, _], _ => rfl⟩
theorem Fx.fn_number (F : Fx P w K mg base) : ∃ fd, FunC K "number" "number" s_number (He.fAd K ("number", none)) fd (.ref (He.codeOf K ("number", none))) ∧ Binds K fd ["word"] [] := by
  obtain ⟨fd, h⟩ := F.fn_ _ (List.mem_of_getElem? (i := 20) rfl)
  exact ⟨fd, funC_of (p := ("number", none)) h, FunD.bindsN h fun _ _ _ _ _ _ us hl => match us, hl with | [_], _ => rfl⟩
theorem Fx.fn_point_of (F : Fx P w K mg base) : ∃ fd, FunC K "point_of" "point_of" s_point_of (He.fAd K ("point_of", none)) fd (.ref (He.codeOf K ("point_of", none))) ∧ Binds K fd ["word", "many"] [] := by
  obtain ⟨fd, h⟩ := F.fn_ _ (List.mem_of_getElem? (i := 21) rfl)
  exact ⟨fd, funC_of (p := ("point_of", none)) h, FunD.bindsN h fun _ _ _ _ _ _ us hl => match us, hl with | [_, _], _ => rfl⟩
theorem Fx.fn_answer_of (F : Fx P w K mg base) : ∃ fd, FunC K "answer_of" "answer_of" s_answer_of (He.fAd K ("answer_of", none)) fd (.ref (He.codeOf K ("answer_of", none))) ∧ Binds K fd ["word"] [] := by
  obtain ⟨fd, h⟩ := F.fn_ _ (List.mem_of_getElem? (i := 22) rfl)
  exact ⟨fd, funC_of (p := ("answer_of", none)) h, FunD.bindsN h fun _ _ _ _ _ _ us hl => match us, hl with | [_], _ => rfl⟩
theorem Fx.fn_said (F : Fx P w K mg base) : ∃ fd, FunC K "said" "said" s_said (He.fAd K ("said", none)) fd (.ref (He.codeOf K ("said", none))) ∧ Binds K fd ["answer"] [] := by
  obtain ⟨fd, h⟩ := F.fn_ _ (List.mem_of_getElem? (i := 23) rfl)
  exact ⟨fd, funC_of (p := ("said", none)) h, FunD.bindsN h fun _ _ _ _ _ _ us hl => match us, hl with | [_], _ => rfl⟩
theorem Fx.fn_told_tree (F : Fx P w K mg base) : ∃ fd, FunC K "told_tree" "told_tree" s_told_tree (He.fAd K ("told_tree", none)) fd (.ref (He.codeOf K ("told_tree", none))) ∧ Binds K fd ["tree"] [] := by
  obtain ⟨fd, h⟩ := F.fn_ _ (List.mem_of_getElem? (i := 24) rfl)
  exact ⟨fd, funC_of (p := ("told_tree", none)) h, FunD.bindsN h fun _ _ _ _ _ _ us hl => match us, hl with | [_], _ => rfl⟩
theorem Fx.fn_told_ladder (F : Fx P w K mg base) : ∃ fd, FunC K "told_ladder" "told_ladder" s_told_ladder (He.fAd K ("told_ladder", none)) fd (.ref (He.codeOf K ("told_ladder", none))) ∧ Binds K fd ["ladder"] [] := by
  obtain ⟨fd, h⟩ := F.fn_ _ (List.mem_of_getElem? (i := 25) rfl)
  exact ⟨fd, funC_of (p := ("told_ladder", none)) h, FunD.bindsN h fun _ _ _ _ _ _ us hl => match us, hl with | [_], _ => rfl⟩
theorem Fx.fn_figure_of (F : Fx P w K mg base) : ∃ fd, FunC K "figure_of" "figure_of" s_figure_of (He.fAd K ("figure_of", none)) fd (.ref (He.codeOf K ("figure_of", none))) ∧ Binds K fd ["text"] [] := by
  obtain ⟨fd, h⟩ := F.fn_ _ (List.mem_of_getElem? (i := 26) rfl)
  exact ⟨fd, funC_of (p := ("figure_of", none)) h, FunD.bindsN h fun _ _ _ _ _ _ us hl => match us, hl with | [_], _ => rfl⟩
theorem Fx.fn_Desk_init (F : Fx P w K mg base) : ∃ fd, FunC K "__init__" "Desk.__init__" s_Desk_init (He.fAd K ("Desk", some "__init__")) fd (.ref (He.codeOf K ("Desk", some "__init__"))) ∧ Binds K fd ["self"] [] := by
  obtain ⟨fd, h⟩ := F.fn_ _ (List.mem_of_getElem? (i := 27) rfl)
  exact ⟨fd, funC_of (p := ("Desk", some "__init__")) h, FunD.bindsN h fun _ _ _ _ _ _ us hl => match us, hl with | [_], _ => rfl⟩
theorem Fx.fn_Desk_say (F : Fx P w K mg base) : ∃ fd, FunC K "say" "Desk.say" s_Desk_say (He.fAd K ("Desk", some "say")) fd (.ref (He.codeOf K ("Desk", some "say"))) ∧ Binds K fd ["self", "line"] [] := by
  obtain ⟨fd, h⟩ := F.fn_ _ (List.mem_of_getElem? (i := 28) rfl)
  exact ⟨fd, funC_of (p := ("Desk", some "say")) h, FunD.bindsN h fun _ _ _ _ _ _ us hl => match us, hl with | [_, _], _ => rfl⟩
theorem Fx.fn_Desk_do (F : Fx P w K mg base) : ∃ fd, FunC K "do" "Desk.do" s_Desk_do (He.fAd K ("Desk", some "do")) fd (.ref (He.codeOf K ("Desk", some "do"))) ∧ Binds K fd ["self", "line"] [] := by
  obtain ⟨fd, h⟩ := F.fn_ _ (List.mem_of_getElem? (i := 29) rfl)
  exact ⟨fd, funC_of (p := ("Desk", some "do")) h, FunD.bindsN h fun _ _ _ _ _ _ us hl => match us, hl with | [_, _], _ => rfl⟩
theorem Fx.fn_Desk_places (F : Fx P w K mg base) : ∃ fd, FunC K "places" "Desk.places" s_Desk_places (He.fAd K ("Desk", some "places")) fd (.ref (He.codeOf K ("Desk", some "places"))) ∧ Binds K fd ["self"] [] := by
  obtain ⟨fd, h⟩ := F.fn_ _ (List.mem_of_getElem? (i := 30) rfl)
  exact ⟨fd, funC_of (p := ("Desk", some "places")) h, FunD.bindsN h fun _ _ _ _ _ _ us hl => match us, hl with | [_], _ => rfl⟩
theorem Fx.fn_Desk_here (F : Fx P w K mg base) : ∃ fd, FunC K "here" "Desk.here" s_Desk_here (He.fAd K ("Desk", some "here")) fd (.ref (He.codeOf K ("Desk", some "here"))) ∧ Binds K fd ["self", "word"] [] := by
  obtain ⟨fd, h⟩ := F.fn_ _ (List.mem_of_getElem? (i := 31) rfl)
  exact ⟨fd, funC_of (p := ("Desk", some "here")) h, FunD.bindsN h fun _ _ _ _ _ _ us hl => match us, hl with | [_, _], _ => rfl⟩
theorem Fx.fn_Desk_in_order (F : Fx P w K mg base) : ∃ fd, FunC K "in_order" "Desk.in_order" s_Desk_in_order (He.fAd K ("Desk", some "in_order")) fd (.ref (He.codeOf K ("Desk", some "in_order"))) ∧ Binds K fd ["self"] [] := by
  obtain ⟨fd, h⟩ := F.fn_ _ (List.mem_of_getElem? (i := 32) rfl)
  exact ⟨fd, funC_of (p := ("Desk", some "in_order")) h, FunD.bindsN h fun _ _ _ _ _ _ us hl => match us, hl with | [_], _ => rfl⟩
theorem Fx.fn_Desk_smallest (F : Fx P w K mg base) : ∃ fd, FunC K "smallest" "Desk.smallest" s_Desk_smallest (He.fAd K ("Desk", some "smallest")) fd (.ref (He.codeOf K ("Desk", some "smallest"))) ∧ Binds K fd ["self"] [] := by
  obtain ⟨fd, h⟩ := F.fn_ _ (List.mem_of_getElem? (i := 33) rfl)
  exact ⟨fd, funC_of (p := ("Desk", some "smallest")) h, FunD.bindsN h fun _ _ _ _ _ _ us hl => match us, hl with | [_], _ => rfl⟩
theorem Fx.fn_Desk_begin (F : Fx P w K mg base) : ∃ fd, FunC K "begin" "Desk.begin" s_Desk_begin (He.fAd K ("Desk", some "begin")) fd (.ref (He.codeOf K ("Desk", some "begin"))) ∧ Binds K fd ["self", "many"] [] := by
  obtain ⟨fd, h⟩ := F.fn_ _ (List.mem_of_getElem? (i := 34) rfl)
  exact ⟨fd, funC_of (p := ("Desk", some "begin")) h, FunD.bindsN h fun _ _ _ _ _ _ us hl => match us, hl with | [_, _], _ => rfl⟩
theorem Fx.fn_Desk_see (F : Fx P w K mg base) : ∃ fd, FunC K "see" "Desk.see" s_Desk_see (He.fAd K ("Desk", some "see")) fd (.ref (He.codeOf K ("Desk", some "see"))) ∧ Binds K fd ["self", "point", "answer"] [] := by
  obtain ⟨fd, h⟩ := F.fn_ _ (List.mem_of_getElem? (i := 35) rfl)
  exact ⟨fd, funC_of (p := ("Desk", some "see")) h, FunD.bindsN h fun _ _ _ _ _ _ us hl => match us, hl with | [_, _, _], _ => rfl⟩
theorem Fx.fn_Desk_drop (F : Fx P w K mg base) : ∃ fd, FunC K "drop" "Desk.drop" s_Desk_drop (He.fAd K ("Desk", some "drop")) fd (.ref (He.codeOf K ("Desk", some "drop"))) ∧ Binds K fd ["self", "point"] [] := by
  obtain ⟨fd, h⟩ := F.fn_ _ (List.mem_of_getElem? (i := 36) rfl)
  exact ⟨fd, funC_of (p := ("Desk", some "drop")) h, FunD.bindsN h fun _ _ _ _ _ _ us hl => match us, hl with | [_, _], _ => rfl⟩
theorem Fx.fn_Desk_written (F : Fx P w K mg base) : ∃ fd, FunC K "written" "Desk.written" s_Desk_written (He.fAd K ("Desk", some "written")) fd (.ref (He.codeOf K ("Desk", some "written"))) ∧ Binds K fd ["self", "words", "answer"] [] := by
  obtain ⟨fd, h⟩ := F.fn_ _ (List.mem_of_getElem? (i := 37) rfl)
  exact ⟨fd, funC_of (p := ("Desk", some "written")) h, FunD.bindsN h fun _ _ _ _ _ _ us hl => match us, hl with | [_, _, _], _ => rfl⟩
theorem Fx.fn_law_dice (F : Fx P w K mg base) : ∃ fd, FunC K "_law_dice" "_law_dice" s_law_dice (He.fAd K ("_law_dice", none)) fd (.ref (He.codeOf K ("_law_dice", none))) ∧ Binds K fd ["cell"] [] := by
  obtain ⟨fd, h⟩ := F.fn_ _ (List.mem_of_getElem? (i := 38) rfl)
  exact ⟨fd, funC_of (p := ("_law_dice", none)) h, FunD.bindsN h fun _ _ _ _ _ _ us hl => match us, hl with | [_], _ => rfl⟩
theorem Fx.fn_law_roll (F : Fx P w K mg base) : ∃ fd, FunC K "_law_roll" "_law_roll" s_law_roll (He.fAd K ("_law_roll", none)) fd (.ref (He.codeOf K ("_law_roll", none))) ∧ Binds K fd ["dice", "many"] [] := by
  obtain ⟨fd, h⟩ := F.fn_ _ (List.mem_of_getElem? (i := 39) rfl)
  exact ⟨fd, funC_of (p := ("_law_roll", none)) h, FunD.bindsN h fun _ _ _ _ _ _ us hl => match us, hl with | [_, _], _ => rfl⟩
theorem Fx.fn_law_rounds (F : Fx P w K mg base) : ∃ fd, FunC K "_law_rounds" "_law_rounds" s_law_rounds (He.fAd K ("_law_rounds", none)) fd (.ref (He.codeOf K ("_law_rounds", none))) ∧ Binds K fd ["script", "most"] [] := by
  obtain ⟨fd, h⟩ := F.fn_ _ (List.mem_of_getElem? (i := 40) rfl)
  exact ⟨fd, funC_of (p := ("_law_rounds", none)) h, FunD.bindsN h fun _ _ _ _ _ _ us hl => match us, hl with | [_, _], _ => rfl⟩
theorem Fx.fn_law_least (F : Fx P w K mg base) : ∃ fd, FunC K "_law_least" "_law_least" s_law_least (He.fAd K ("_law_least", none)) fd (.ref (He.codeOf K ("_law_least", none))) ∧ Binds K fd ["examples", "places", "flat", "known"] [] := by
  obtain ⟨fd, h⟩ := F.fn_ _ (List.mem_of_getElem? (i := 41) rfl)
  exact ⟨fd, funC_of (p := ("_law_least", none)) h, FunD.bindsN h fun _ _ _ _ _ _ us hl => match us, hl with | [_, _, _, _], _ => rfl⟩
theorem Fx.fn_law (F : Fx P w K mg base) : ∃ fd, FunC K "law" "law" s_law (He.fAd K ("law", none)) fd (.ref (He.codeOf K ("law", none))) ∧ Binds K fd ["script"] [] := by
  obtain ⟨fd, h⟩ := F.fn_ _ (List.mem_of_getElem? (i := 42) rfl)
  exact ⟨fd, funC_of (p := ("law", none)) h, FunD.bindsN h fun _ _ _ _ _ _ us hl => match us, hl with | [_], _ => rfl⟩
theorem Fx.tb_check_point (F : Fx P w K mg base) : LamX.TabB base mg (He.cT K ("check_point", none)).1 (He.cT K ("check_point", none)).2 ∧ (He.cT K ("check_point", none)).2 ∈ Tb K := ⟨F.tb _ (List.mem_of_getElem? (i := 0) rfl), List.mem_map.mpr ⟨_, List.mem_map.mpr ⟨_, List.mem_of_getElem? (i := 0) rfl, rfl⟩, rfl⟩⟩
theorem Fx.tb_Counts_take (F : Fx P w K mg base) : LamX.TabB base mg (He.cT K ("Counts", some "take")).1 (He.cT K ("Counts", some "take")).2 ∧ (He.cT K ("Counts", some "take")).2 ∈ Tb K := ⟨F.tb _ (List.mem_of_getElem? (i := 1) rfl), List.mem_map.mpr ⟨_, List.mem_map.mpr ⟨_, List.mem_of_getElem? (i := 1) rfl, rfl⟩, rfl⟩⟩
theorem Fx.tb_figure_of (F : Fx P w K mg base) : LamX.TabB base mg (He.cT K ("figure_of", none)).1 (He.cT K ("figure_of", none)).2 ∧ (He.cT K ("figure_of", none)).2 ∈ Tb K := ⟨F.tb _ (List.mem_of_getElem? (i := 2) rfl), List.mem_map.mpr ⟨_, List.mem_map.mpr ⟨_, List.mem_of_getElem? (i := 2) rfl, rfl⟩, rfl⟩⟩
end
end H66

set_option Elab.async false
set_option linter.all false
set_option maxRecDepth 100000
set_option maxHeartbeats 0
/-! the head's run. Printed by mkhead.py. -/
namespace H66
open PySem PySem.Spec PyProof.Rows L2 LW
abbrev R : PySem.W.OpenRow := PySem.W.OpenLaw.row PySem.Challenge.rw_lessonwright_k66_trees_said_to_a_desk
def names0 : List PySem.Str := ["_wall", "LearnFault", "BadFormula", "BadExample", "BadSize", "BadText", "NoSuch", "check_point", "check_examples", "has", "size", "depth", "table_key", "halves", "cost_of", "best", "grown", "Counts", "Ladder", "next_step", "learned_ladder", "number", "point_of", "answer_of", "said", "told_tree", "told_ladder", "figure_of", "Desk", "_law_dice"]
def names1 : List PySem.Str := ["_law_roll", "_law_rounds", "_law_least", "FIGURES", "BASE", "WIDE"]
def names : List PySem.Str := names0 ++ names1
abbrev hk : PySem.W.Hook := He.hookX 5 fa fn [] tf fun _ => true
def ob (s : PySem.W.SharedT) : He.AlX := He.obsX 5 fa fn [] tf (fun _ => true) (HandSHeadRun.getT s)
theorem ob_eq (s : PySem.W.SharedT) : ob s = hk.obs s.abs := He.obsX_eq (HandSHeadRun.getT_eq s)
theorem run (w : World) : HandSHeadRun.RunEq R (PySem.W.view R.prog [43]) hk ob 20000 names w := by
  intro os
  kernel_rfl
end H66

set_option Elab.async false
set_option linter.all false
set_option maxRecDepth 100000
set_option maxHeartbeats 2000000
/-! BA: trees of places, plainly: lots, costs, the tree told. -/
namespace BO
open PySem PySem.Spec PyProof.Rows L2 LW
abbrev Pt := List Int
abbrev Ex := Pt × Bool
def sameT (E : List Ex) : Bool := decide ((ddp [] (E.map (·.2))).length < 2)
def hlf (E : List Ex) (p : Nat) (b : Int) : List Ex := E.filter fun e => decide (e.1.getD p 0 = b)
def comb (flat : Bool) (a b : Int) : Int := if flat = true then max a b else a + b
def splits (E : List Ex) (p : Nat) : Bool := !decide ((hlf E p 0).length = 0) && !decide ((hlf E p 1).length = 0)
def cstF (flat : Bool) (many : Nat) : Nat → List Ex → Int
  | 0, _ => 0
  | n + 1, E => if sameT E = true then 0 else lmin (((List.range many).filter (splits E)).map fun p => 1 + comb flat (cstF flat many n (hlf E p 0)) (cstF flat many n (hlf E p 1)))
def cst (flat : Bool) (many : Nat) (E : List Ex) : Int := cstF flat many E.length E
theorem hlf_le (E : List Ex) (p : Nat) (b : Int) : (hlf E p b).length ≤ E.length := List.length_filter_le _ _
theorem hlf_mem {E : List Ex} {p : Nat} {b : Int} {e : Ex} : e ∈ hlf E p b ↔ e ∈ E ∧ e.1.getD p 0 = b := by
  unfold hlf
  rw [List.mem_filter]
  simp
theorem pos_mem {l : List Ex} (h : ¬ l.length = 0) : ∃ e, e ∈ l := by
  cases l with
  | nil => exact absurd rfl h
  | cons a r => exact ⟨a, List.mem_cons_self⟩
theorem splits_iff {E : List Ex} {p : Nat} : splits E p = true ↔ ¬ (hlf E p 0).length = 0 ∧ ¬ (hlf E p 1).length = 0 := by
  unfold splits
  simp
theorem hlf_lt {E : List Ex} {p : Nat} (h : splits E p = true) : (hlf E p 0).length < E.length ∧ (hlf E p 1).length < E.length := by
  obtain ⟨h0, h1⟩ := splits_iff.mp h
  obtain ⟨e0, m0⟩ := pos_mem h0
  obtain ⟨e1, m1⟩ := pos_mem h1
  obtain ⟨i0, b0⟩ := hlf_mem.mp m0
  obtain ⟨i1, b1⟩ := hlf_mem.mp m1
  constructor
  · exact List.length_filter_lt_length_iff_exists.mpr ⟨e1, i1, by rw [b1]; decide⟩
  · exact List.length_filter_lt_length_iff_exists.mpr ⟨e0, i0, by rw [b0]; decide⟩
theorem same_nil : sameT [] = true := rfl
theorem mem_splits {E : List Ex} {many p : Nat} (h : p ∈ (List.range many).filter (splits E)) : p < many ∧ splits E p = true := by
  obtain ⟨h1, h2⟩ := List.mem_filter.mp h
  exact ⟨List.mem_range.mp h1, h2⟩
theorem cstF_fuel (flat : Bool) (many : Nat) : ∀ (n m : Nat) (E : List Ex), E.length ≤ n → E.length ≤ m → cstF flat many n E = cstF flat many m E
  | 0, 0, _, _, _ => rfl
  | 0, m + 1, E, h, _ => by
    have e : E = [] := List.eq_nil_of_length_eq_zero (by omega)
    subst e
    rfl
  | n + 1, 0, E, _, h => by
    have e : E = [] := List.eq_nil_of_length_eq_zero (by omega)
    subst e
    rfl
  | n + 1, m + 1, E, h1, h2 => by
    unfold cstF
    by_cases hs : sameT E = true
    · rw [if_pos hs, if_pos hs]
    · rw [if_neg hs, if_neg hs]
      congr 1
      refine List.map_congr_left fun p hp => ?_
      obtain ⟨_, hp⟩ := mem_splits hp
      obtain ⟨l0, l1⟩ := hlf_lt hp
      rw [cstF_fuel flat many n m (hlf E p 0) (by omega) (by omega), cstF_fuel flat many n m (hlf E p 1) (by omega) (by omega)]
theorem cstF_cst {flat : Bool} {many n : Nat} {E : List Ex} (h : E.length ≤ n) : cstF flat many n E = cst flat many E := cstF_fuel flat many _ _ _ h (Nat.le_refl _)
/-- the costs by the places -/
def ways (flat : Bool) (many : Nat) (E : List Ex) : List Int := ((List.range many).filter (splits E)).map fun p => 1 + comb flat (cst flat many (hlf E p 0)) (cst flat many (hlf E p 1))
theorem cst_eq (flat : Bool) (many : Nat) (E : List Ex) : cst flat many E = if sameT E = true then 0 else lmin (ways flat many E) := by
  show cstF flat many E.length E = _
  cases hl : E.length with
  | zero =>
    have e : E = [] := List.eq_nil_of_length_eq_zero hl
    subst e
    rfl
  | succ n =>
    unfold cstF
    by_cases hs : sameT E = true
    · rw [if_pos hs, if_pos hs]
    · rw [if_neg hs, if_neg hs]
      unfold ways
      congr 1
      refine List.map_congr_left fun p hp => ?_
      obtain ⟨_, hp⟩ := mem_splits hp
      obtain ⟨l0, l1⟩ := hlf_lt hp
      rw [cstF_cst (by omega), cstF_cst (by omega)]
theorem cst_same {flat : Bool} {many : Nat} {E : List Ex} (h : sameT E = true) : cst flat many E = 0 := by rw [cst_eq, if_pos h]
theorem cst_ways {flat : Bool} {many : Nat} {E : List Ex} (h : sameT E = false) : cst flat many E = lmin (ways flat many E) := by rw [cst_eq, if_neg (by rw [h]; exact Bool.false_ne_true)]
/-! lots -/
structure Good (many : Nat) (E : List Ex) : Prop where
  len : ∀ e ∈ E, e.1.length = many
  bit : ∀ e ∈ E, ∀ b ∈ e.1, b = 0 ∨ b = 1
  nd : (E.map (·.1)).Nodup
theorem Good.hlf {many : Nat} {E : List Ex} (g : Good many E) (p : Nat) (b : Int) : Good many (BO.hlf E p b) :=
  ⟨fun e h => g.len e (hlf_mem.mp h).1, fun e h => g.bit e (hlf_mem.mp h).1, List.Sublist.nodup (List.Sublist.map _ List.filter_sublist) g.nd⟩
theorem fst_inj {E : List Ex} (h : (E.map (·.1)).Nodup) : ∀ {e f : Ex}, e ∈ E → f ∈ E → e.1 = f.1 → e = f := by
  induction E with
  | nil => intro e f h; cases h
  | cons a r ih =>
    rw [List.map_cons, List.nodup_cons] at h
    intro e f he hf q
    rcases List.mem_cons.mp he with e1 | e1 <;> rcases List.mem_cons.mp hf with e2 | e2
    · rw [e1, e2]
    · subst e1
      exact absurd (List.mem_map.mpr ⟨f, e2, q.symm⟩) h.1
    · subst e2
      exact absurd (List.mem_map.mpr ⟨e, e1, q⟩) h.1
    · exact ih h.2 e1 e2 q
theorem two_takes {l : List Bool} (h : ¬ (ddp [] l).length < 2) : true ∈ l ∧ false ∈ l := by
  have nd := ddp_nodup l [] List.nodup_nil
  have hm : ∀ b, b ∈ ddp [] l → b ∈ l := fun b hb => by
    rcases (ddp_mem l [] b).mp hb with q | q
    · cases q
    · exact q
  match hq : ddp [] l with
  | [] => rw [hq] at h; exact absurd (Nat.zero_lt_succ 1) h
  | [_] => rw [hq] at h; exact absurd (by decide : 1 < 2) h
  | a :: b :: r =>
    rw [hq] at nd hm
    have ha := hm a List.mem_cons_self
    have hb := hm b (List.mem_cons_of_mem _ List.mem_cons_self)
    rw [List.nodup_cons] at nd
    have ne : a ≠ b := fun e => nd.1 (by rw [e]; exact List.mem_cons_self)
    cases a <;> cases b
    · exact absurd rfl ne
    · exact ⟨hb, ha⟩
    · exact ⟨ha, hb⟩
    · exact absurd rfl ne
theorem differ : ∀ {a b : List Int}, a.length = b.length → a ≠ b → ∃ p, p < a.length ∧ a.getD p 0 ≠ b.getD p 0
  | [], [], _, h => absurd rfl h
  | [], _ :: _, h, _ => by cases h
  | _ :: _, [], h, _ => by cases h
  | x :: a, y :: b, hl, h => by
    by_cases e : x = y
    · subst e
      obtain ⟨p, h1, h2⟩ := differ (Nat.succ.inj hl) fun q => h (by rw [q])
      exact ⟨p + 1, Nat.succ_lt_succ h1, by simpa using h2⟩
    · exact ⟨0, Nat.zero_lt_succ _, by simpa using e⟩
theorem getD_bit {l : List Int} (h : ∀ b ∈ l, b = 0 ∨ b = 1) (p : Nat) : l.getD p 0 = 0 ∨ l.getD p 0 = 1 := by
  rw [List.getD_eq_getElem?_getD]
  cases e : l[p]? with
  | none => exact .inl rfl
  | some b => exact h b (List.mem_of_getElem? e)
theorem sep {many : Nat} {E : List Ex} (g : Good many E) (h : sameT E = false) : ∃ p, p < many ∧ splits E p = true := by
  have h2 : ¬ (ddp [] (E.map (·.2))).length < 2 := of_decide_eq_false h
  obtain ⟨ht, hf⟩ := two_takes h2
  obtain ⟨e, he, e2⟩ := List.mem_map.mp ht
  obtain ⟨f, hf, f2⟩ := List.mem_map.mp hf
  have ne : e.1 ≠ f.1 := fun q => by
    have z := fst_inj g.nd he hf q
    rw [z, f2] at e2
    cases e2
  obtain ⟨p, hp, hd⟩ := differ (by rw [g.len e he, g.len f hf]) ne
  refine ⟨p, by rw [← g.len e he]; exact hp, splits_iff.mpr ?_⟩
  have full : ∀ {l : List Ex} {x : Ex}, x ∈ l → ¬ l.length = 0 := fun h q => by rw [List.eq_nil_of_length_eq_zero q] at h; cases h
  rcases getD_bit (g.bit e he) p with q | q <;> rcases getD_bit (g.bit f hf) p with r | r
  · exact absurd (q.trans r.symm) hd
  · exact ⟨full (hlf_mem.mpr ⟨he, q⟩), full (hlf_mem.mpr ⟨hf, r⟩)⟩
  · exact ⟨full (hlf_mem.mpr ⟨hf, r⟩), full (hlf_mem.mpr ⟨he, q⟩)⟩
  · exact absurd (q.trans r.symm) hd
theorem ways_pos {flat : Bool} {many : Nat} {E : List Ex} (g : Good many E) (h : sameT E = false) : 0 < (ways flat many E).length := by
  obtain ⟨p, h1, h2⟩ := sep g h
  exact List.length_pos_of_mem (List.mem_map.mpr ⟨p, List.mem_filter.mpr ⟨List.mem_range.mpr h1, h2⟩, rfl⟩)
/-! trees -/
inductive Tr where
  | leaf (b : Bool)
  | node (p : Nat) (l r : Tr)
def Tr.size : Tr → Int
  | .leaf _ => 0
  | .node _ l r => 1 + l.size + r.size
def Tr.depth : Tr → Int
  | .leaf _ => 0
  | .node _ l r => 1 + max l.depth r.depth
def Tr.dep : Tr → Nat
  | .leaf _ => 0
  | .node _ l r => max l.dep r.dep + 1
def Tr.cnt : Tr → Nat
  | .leaf _ => 0
  | .node _ l r => 1 + l.cnt + r.cnt
def Tr.has : Tr → Pt → Bool
  | .leaf b, _ => b
  | .node p l r, pt => if pt.getD p 0 = 0 then l.has pt else r.has pt
/-- asks places below many alone -/
def Tr.lt (many : Nat) : Tr → Prop
  | .leaf _ => True
  | .node p l r => p < many ∧ l.lt many ∧ r.lt many
theorem Tr.size_cnt : ∀ t : Tr, t.size = (t.cnt : Int)
  | .leaf _ => rfl
  | .node _ l r => by
    show 1 + l.size + r.size = ((1 + l.cnt + r.cnt : Nat) : Int)
    rw [Tr.size_cnt l, Tr.size_cnt r]
    omega
theorem Tr.depth_dep : ∀ t : Tr, t.depth = (t.dep : Int)
  | .leaf _ => rfl
  | .node _ l r => by
    show 1 + max l.depth r.depth = ((max l.dep r.dep + 1 : Nat) : Int)
    rw [Tr.depth_dep l, Tr.depth_dep r]
    omega
theorem Tr.dep_cnt : ∀ t : Tr, t.dep ≤ t.cnt
  | .leaf _ => Nat.le_refl _
  | .node _ l r => by
    have h1 := Tr.dep_cnt l
    have h2 := Tr.dep_cnt r
    show max l.dep r.dep + 1 ≤ 1 + l.cnt + r.cnt
    omega
def firstT (E : List Ex) : Bool := match ddp [] (E.map (·.2)) with
  | [] => false
  | b :: _ => b
def pick (flat : Bool) (many : Nat) (E : List Ex) : Option Nat := (List.range many).find? fun p => splits E p && decide (1 + comb flat (cst flat many (hlf E p 0)) (cst flat many (hlf E p 1)) = cst flat many E)
def grwF (flat : Bool) (many : Nat) : Nat → List Ex → Tr
  | 0, E => .leaf (firstT E)
  | n + 1, E => if sameT E = true then .leaf (firstT E) else match pick flat many E with
    | some p => .node p (grwF flat many n (hlf E p 0)) (grwF flat many n (hlf E p 1))
    | none => .leaf false
def grw (flat : Bool) (many : Nat) (E : List Ex) : Tr := grwF flat many E.length E
theorem pick_some {flat : Bool} {many : Nat} {E : List Ex} {p : Nat} (h : pick flat many E = some p) : p < many ∧ splits E p = true ∧ 1 + comb flat (cst flat many (hlf E p 0)) (cst flat many (hlf E p 1)) = cst flat many E := by
  have h1 := List.find?_some h
  have h2 := List.mem_of_find?_eq_some h
  rw [Bool.and_eq_true] at h1
  exact ⟨List.mem_range.mp h2, h1.1, of_decide_eq_true h1.2⟩
theorem grwF_fuel (flat : Bool) (many : Nat) : ∀ (n m : Nat) (E : List Ex), E.length ≤ n → E.length ≤ m → grwF flat many n E = grwF flat many m E
  | 0, 0, _, _, _ => rfl
  | 0, m + 1, E, h, _ => by
    have e : E = [] := List.eq_nil_of_length_eq_zero (by omega)
    subst e
    rfl
  | n + 1, 0, E, _, h => by
    have e : E = [] := List.eq_nil_of_length_eq_zero (by omega)
    subst e
    rfl
  | n + 1, m + 1, E, h1, h2 => by
    unfold grwF
    by_cases hs : sameT E = true
    · rw [if_pos hs, if_pos hs]
    · rw [if_neg hs, if_neg hs]
      cases hp : pick flat many E with
      | none => rfl
      | some p =>
        obtain ⟨_, h3, _⟩ := pick_some hp
        obtain ⟨l0, l1⟩ := hlf_lt h3
        show Tr.node _ _ _ = Tr.node _ _ _
        rw [grwF_fuel flat many n m (hlf E p 0) (by omega) (by omega), grwF_fuel flat many n m (hlf E p 1) (by omega) (by omega)]
theorem grw_eq (flat : Bool) (many : Nat) (E : List Ex) : grw flat many E = if sameT E = true then .leaf (firstT E) else match pick flat many E with
    | some p => .node p (grw flat many (hlf E p 0)) (grw flat many (hlf E p 1))
    | none => .leaf false := by
  show grwF flat many E.length E = _
  cases hl : E.length with
  | zero =>
    have e : E = [] := List.eq_nil_of_length_eq_zero hl
    subst e
    rfl
  | succ n =>
    unfold grwF
    by_cases hs : sameT E = true
    · rw [if_pos hs, if_pos hs]
    · rw [if_neg hs, if_neg hs]
      cases hp : pick flat many E with
      | none => rfl
      | some p =>
        obtain ⟨_, h3, _⟩ := pick_some hp
        obtain ⟨l0, l1⟩ := hlf_lt h3
        show Tr.node _ _ _ = Tr.node _ _ _
        rw [grwF_fuel flat many n _ (hlf E p 0) (by omega) (Nat.le_refl _), grwF_fuel flat many n _ (hlf E p 1) (by omega) (Nat.le_refl _)]
        rfl
theorem pick_good {flat : Bool} {many : Nat} {E : List Ex} (g : Good many E) (h : sameT E = false) : ∃ p, pick flat many E = some p := by
  cases hp : pick flat many E with
  | some p => exact ⟨p, rfl⟩
  | none =>
    have h1 := (lmin_spec (ways_pos (flat := flat) g h)).1
    rw [← cst_ways h] at h1
    obtain ⟨p, h2, h3⟩ := List.mem_map.mp h1
    obtain ⟨h4, h5⟩ := mem_splits h2
    have := List.find?_eq_none.mp hp p (List.mem_range.mpr h4)
    rw [h5, h3] at this
    simp at this
/-- the tree told costs what the table says -/
theorem grw_cost (flat : Bool) (many : Nat) : ∀ (n : Nat) (E : List Ex), E.length ≤ n → Good many E → (if flat = true then (grw flat many E).depth else (grw flat many E).size) = cst flat many E
  | 0, E, h, g => by
    have e : E = [] := List.eq_nil_of_length_eq_zero (by omega)
    subst e
    cases flat <;> rfl
  | n + 1, E, h, g => by
    rw [grw_eq]
    by_cases hs : sameT E = true
    · rw [if_pos hs, cst_same hs]
      cases flat <;> rfl
    · have hs' : sameT E = false := by simpa using hs
      rw [if_neg hs]
      obtain ⟨p, hp⟩ := pick_good (flat := flat) g hs'
      rw [hp]
      obtain ⟨_, h3, h4⟩ := pick_some hp
      obtain ⟨l0, l1⟩ := hlf_lt h3
      have i0 := grw_cost flat many n (hlf E p 0) (by omega) (g.hlf p 0)
      have i1 := grw_cost flat many n (hlf E p 1) (by omega) (g.hlf p 1)
      rw [← h4]
      cases flat with
      | true =>
        simp only [if_true] at i0 i1 ⊢
        show 1 + max _ _ = 1 + comb true _ _
        rw [i0, i1]
        rfl
      | false =>
        simp only [Bool.false_eq_true, if_false] at i0 i1 ⊢
        show 1 + _ + _ = 1 + comb false _ _
        rw [i0, i1]
        show _ = 1 + (_ + _)
        omega
theorem grw_lt (flat : Bool) (many : Nat) : ∀ (n : Nat) (E : List Ex), E.length ≤ n → (grw flat many E).lt many
  | 0, E, h => by
    have e : E = [] := List.eq_nil_of_length_eq_zero (by omega)
    subst e
    trivial
  | n + 1, E, h => by
    rw [grw_eq]
    by_cases hs : sameT E = true
    · rw [if_pos hs]
      trivial
    · rw [if_neg hs]
      cases hp : pick flat many E with
      | none => trivial
      | some p =>
        obtain ⟨h2, h3, h4⟩ := pick_some hp
        obtain ⟨l0, l1⟩ := hlf_lt h3
        exact ⟨h2, grw_lt flat many n _ (by omega), grw_lt flat many n _ (by omega)⟩
theorem hlf_both {E : List Ex} {p : Nat} : (hlf E p 0).length + (hlf E p 1).length ≤ E.length := by
  unfold hlf
  induction E with
  | nil => simp
  | cons e r ih =>
    rw [List.filter_cons, List.filter_cons]
    by_cases h0 : e.1.getD p 0 = 0
    · simp only [h0, decide_true, if_true]
      have : ¬ ((0 : Int) = 1) := by decide
      simp only [this, decide_false, Bool.false_eq_true, if_false, List.length_cons]
      omega
    · simp only [h0, decide_false, Bool.false_eq_true, if_false]
      split
      · simp only [List.length_cons]; omega
      · simp only [List.length_cons]; omega
/-- it asks fewer places than there are examples -/
theorem grw_cnt (flat : Bool) (many : Nat) : ∀ (n : Nat) (E : List Ex), E.length ≤ n → (grw flat many E).cnt + 1 ≤ max E.length 1
  | 0, E, h => by
    have e : E = [] := List.eq_nil_of_length_eq_zero (by omega)
    subst e
    exact Nat.le_refl _
  | n + 1, E, h => by
    rw [grw_eq]
    by_cases hs : sameT E = true
    · rw [if_pos hs]
      show 0 + 1 ≤ _
      omega
    · rw [if_neg hs]
      cases hp : pick flat many E with
      | none =>
        show 0 + 1 ≤ _
        omega
      | some p =>
        obtain ⟨h2, h3, h4⟩ := pick_some hp
        obtain ⟨l0, l1⟩ := hlf_lt h3
        obtain ⟨n0, n1⟩ := splits_iff.mp h3
        have i0 := grw_cnt flat many n (hlf E p 0) (by omega)
        have i1 := grw_cnt flat many n (hlf E p 1) (by omega)
        have hb := hlf_both (E := E) (p := p)
        show 1 + (grw flat many (hlf E p 0)).cnt + (grw flat many (hlf E p 1)).cnt + 1 ≤ _
        omega
theorem grw_dep (flat : Bool) (many : Nat) (E : List Ex) : (grw flat many E).dep ≤ E.length := by
  have h1 := Tr.dep_cnt (grw flat many E)
  have h2 := grw_cnt flat many _ E (Nat.le_refl _)
  omega
end BO

set_option Elab.async false
set_option linter.all false
set_option maxRecDepth 100000
set_option maxHeartbeats 2000000
/-! BB: examples and trees as data; the memo of costs; rules by a relation. -/
namespace LW
open PySem PySem.Spec PyProof.Rows L2
section
variable {α : Type} [DecidableEq α] {n m : Nat} {f : α → D} {g : α → PyData} {k : α → NestedKey}
theorem EncP.mono (E : EncP n f g) (h : n ≤ m) : EncP m f g := ⟨E.py, E.eqv, E.alike, E.lay, fun a => Nat.le_trans (E.dep a) h⟩
theorem EncK.mono (E : EncK n f k) (h : n ≤ m) : EncK m f k := ⟨E.nk, E.inj, fun a => Nat.le_trans (E.dep a) h⟩
end
/-- pairs with unlike keys, put one by one -/
theorem dmrg_new : ∀ (more kvs : List (D × D)), ((kvs ++ more).map fun p => p.1.nk).Nodup → dmrg kvs more = kvs ++ more
  | [], kvs, _ => (List.append_nil _).symm
  | p :: more, kvs, h => by
    show dmrg (dput kvs p.1 p.2) more = _
    have hn : (kvs.any fun q => nkEq q.1 p.1) = false := by
      refine List.any_eq_false.mpr fun q hq => ?_
      rw [List.map_append, List.nodup_append] at h
      have := h.2.2 q.1.nk (List.mem_map.mpr ⟨q, hq, rfl⟩) p.1.nk (List.mem_map.mpr ⟨p, List.mem_cons_self, rfl⟩)
      unfold nkEq
      simpa using this
    have e : dput kvs p.1 p.2 = kvs ++ [p] := by
      unfold dput
      rw [if_neg (by rw [hn]; exact Bool.false_ne_true)]
    rw [e, dmrg_new more (kvs ++ [p]) (by rw [List.append_assoc]; exact h), List.append_assoc]
    rfl
theorem dput_new {kvs : List (D × D)} {k v : D} (h : dget kvs k = none) : dput kvs k v = kvs ++ [(k, v)] := by
  have hn : (kvs.any fun q => nkEq q.1 k) = false := by
    refine List.any_eq_false.mpr fun q hq => ?_
    unfold dget at h
    rw [Option.map_eq_none_iff] at h
    have := List.find?_eq_none.mp h q hq
    exact this
  unfold dput
  rw [if_neg (by rw [hn]; exact Bool.false_ne_true)]
section
variable {α : Type} [DecidableEq α] {n : Nat} {f : α → D} {k : α → NestedKey}
theorem nkEq_enc (E : EncK n f k) (a b : α) : nkEq (f a) (f b) = decide (a = b) := by
  unfold nkEq
  rw [E.nk, E.nk]
  by_cases h : a = b
  · subst h; simp
  · rw [decide_eq_false h, decide_eq_false]
    intro q
    exact h (E.inj a b (Option.some.inj q))
/-- a dict over a type of keys -/
theorem dget_enc (E : EncK n f k) (g : α → D → Prop) : ∀ (xs : List (α × D)) (a : α), dget (xs.map fun p => (f p.1, p.2)) (f a) = (xs.find? fun p => decide (p.1 = a)).map (·.2)
  | [], _ => rfl
  | p :: r, a => by
    unfold dget
    rw [List.map_cons, List.find?_cons, List.find?_cons, nkEq_enc E]
    cases hd : decide (p.1 = a) with
    | true => rfl
    | false => exact dget_enc E g r a
end
section
variable {X : Cx} {T : List Addr} {ρ ρ' : List (Option D)} {M M1 M2 M3 : Mem} {d da db dc : D} {a b c e o : Expr} {es : List Expr} {pos tpos p apos : Pos} {ds : List D} {R R' : D → Mem → Prop}
/-- a if c else b, by a relation -/
theorem pdr_if {k : Bool} (hc : PDT X T ρ M c k M1) (h1 : k = true → PDR X T ρ M1 a R) (h2 : k = false → PDR X T ρ M1 b R) : PDR X T ρ M (.IfExp c a b pos) R :=
  (pe_ifExp hc (PE.exB (P := k = true) h1) (PE.exB (P := k = false) h2)).imp fun σ H Q ⟨G, hs, sl, q⟩ => ⟨G, hs, sl, fun G1 H1 st hs1 => by
    cases k with
    | true => exact ⟨rfl, G1, hs1, sl.up st.up, fun v2 G2 H2 d m r st2 hs2 r2 => q v2 G2 H2 d m r (st.trans st2) hs2 r2⟩
    | false => exact ⟨rfl, G1, hs1, sl.up st.up, fun v2 G2 H2 d m r st2 hs2 r2 => q v2 G2 H2 d m r (st.trans st2) hs2 r2⟩⟩
/-- f(..), the arguments known by a relation -/
theorem pdr_cR {α : Type} {args : α → List D} {Mf : α → Mem} {post : α → D → Mem → Prop} {k : Nat} {f : Addr} {ps : List Str} {nm : Str} {RL : List D → Mem → Prop} (Cl : Cal X.prog X.w X.K X.mg X.base k f ps (spC X.w T args Mf post)) (hr : Room k X.A) (hm : X.mg nm = some (.ref f))
    (ha : PDLR X T ρ M (e :: es) RL) (hx : ∀ ds m, RL ds m → ∃ (x : α) (Mo : Mem → Mem), args x = ds ∧ Fram m (Mf x) Mo ∧ ∀ d m', post x d m' → R d (Mo m')) (hg : Gl X nm := by rfl) (hdb : (nm == ("__debug__" : Str)) = false := by decide) (he : starEach (e :: es) X.env = (false, eval e X.env) :: starEach es X.env := by rfl) (hpl : (backTo pos (starEach es X.env)).any (·.1) = false := by rfl) :
    PDR X T ρ M (.Call (.Name nm p) (e :: es) [] pos) R := by
  obtain ⟨fd, F, hb⟩ := Cl.ex
  refine (pe_call F hr hg hm Cl.kp hb .nil pass0 ha hdb he hpl).imp fun σ H Q ⟨G, hs, sl, k⟩ => ⟨G, hs, sl, fun vs G1 H1 ds m r st1 hs1 r1 => ?_⟩
  obtain ⟨x, Mo, hx1, fr, hp⟩ := hx ds m r
  refine to_sp fr hs1 (by rw [hx1, List.append_nil]; exact r1) fun v G' H' d m' hpo st hs' rd => k v G' H' d _ (hp d m' hpo) (st1.trans st) hs' rd
/-- a test known by a relation on what is owned: the value stays -/
theorem pdl_nilR : PDLR X T ρ M [] (fun ds m => ds = [] ∧ m = M) := pdlr_nil ⟨rfl, rfl⟩
theorem pdr_opR {op : Operator} {r : R2} {Ra : D → Mem → Prop} (ho : OpR X (binaryOp op) r) (ha : PDR X T ρ M a Ra) (hb : ∀ da m, Ra da m → ∃ db m2 dd, PD X T ρ m b db m2 ∧ OkR2 X.w T m2 r da db dd ∧ R dd m2) : PDR X T ρ M (.BinOp a op b pos) R :=
  ⟨fun pins s σ H Q I ⟨G, hs, sl, k⟩ => by
    refine wpAny_BinOp (thn (ha.run pins s σ H (fun v H1 => ∃ G1 d m, Ra d m ∧ Step G H M G1 H1 m ∧ HS X.w T G1 H1 m ∧ Dt X.w G1 v d) I ⟨G, hs, sl, fun v G' H' d m r st hs' rd => ⟨G', d, m, r, st, hs', rd⟩⟩) fun u s1 ⟨x, H1, I1, rx, G1, d, m, ra, st1, hs1, rd⟩ => ?_)
    obtain ⟨db, m2, dd, hb, hr, hR⟩ := hb d m ra
    refine thn (hb.run pins s1 σ H1 (fun v H2 => ∃ G2, Step G1 H1 m G2 H2 m2 ∧ HS X.w T G2 H2 m2 ∧ Dt X.w G2 v db) I1 ⟨G1, hs1, sl.up st1.up, fun v G' H' st hs' rd => ⟨G', st, hs', rd⟩⟩) fun u2 s2 ⟨y, H2, I2, ry, G2, st2, hs2, rd2⟩ => ?_
    exact ho pins s2 σ H2 x y u u2 Q I2 rx ry (hr G2 H2 x y Q hs2 (rd.up st2.up) rd2 fun z G' H' st hs' rz => k z G' H' dd m2 hR ((st1.trans st2).trans st) hs' rz)⟩
end
/-- a def whose last parameter has a default -/
structure CalD (P : Program) (w : World) (K : PySem.W.Frag) (mg : Str → Option Value) (base : Heap) (k : Nat) (f : Addr) (ps : List Str) (sp : Sp) (dv : List V) : Prop where
  ex : ∃ fd, FnOk P w K mg base CX0 k f fd ps sp ∧ Binds K fd ps [] ∧ ∃ du, Vals dv du ∧ Binds K fd ps du
  kp : PySem.W.keepIn K (.ref f) = true
theorem CalD.all {P : Program} {w : World} {K : PySem.W.Frag} {mg : Str → Option Value} {base : Heap} {k : Nat} {f : Addr} {ps : List Str} {sp : Sp} {dv : List V} (c : CalD P w K mg base k f ps sp dv) : Cal P w K mg base k f ps sp :=
  let ⟨fd, h1, h2, _⟩ := c.ex
  ⟨⟨fd, h1, h2⟩, c.kp⟩
theorem Dfl.bl {w : World} (b : Bool) : Dfl w [.bl b] [.bl b] := ⟨fun _ => .cons (.bl b) .nil⟩
/-- f(..) by its value, the default filled in -/
theorem pd_cD {X : Cx} {T : List Addr} {ρ : List (Option D)} {M M1 : Mem} {e : Expr} {es : List Expr} {pos p : Pos} {ds dvs : List D} {α : Type} {args : α → List D} {val : α → D} {k : Nat} {f : Addr} {ps : List Str} {nm : Str} {dv : List V} (x : α) (Cl : CalD X.prog X.w X.K X.mg X.base k f ps (spP X.w T args val) dv) (hr : Room k X.A) (hm : X.mg nm = some (.ref f)) (hD : Dfl X.w dv dvs)
    (ha : PDL X T ρ M (e :: es) ds M1) (hx : args x = ds ++ dvs) (hg : Gl X nm := by rfl) (hdb : (nm == ("__debug__" : Str)) = false := by decide) (he : starEach (e :: es) X.env = (false, eval e X.env) :: starEach es X.env := by rfl) (hpl : (backTo pos (starEach es X.env)).any (·.1) = false := by rfl) :
    PD X T ρ M (.Call (.Name nm p) (e :: es) [] pos) (val x) M1 := by
  obtain ⟨fd, F, _, du, hv, hb⟩ := Cl.ex
  exact pd_ofR (pdr_callD x F hr hm Cl.kp hb hv hD ha hx Fram.none hg hdb he hpl) fun d m ⟨m', e1, e2, e3⟩ => ⟨e2, by rw [e1, e3]; exact List.append_nil _⟩
section
variable {X : Cx} {T : List Addr} {ρ : List (Option D)} {M M' R : Mem} {A : List Stmt} {Nx : List (Option D) → Mem → Prop} {Rt : D → Mem → Prop}
theorem Step.more {G H G' H' : Hp} {N : Mem} (h : M.Perm (M' ++ R)) (s : Step G H M' G' H' N) : Step G H M G' H' N := by
  have e : ∀ a, a ∈ adr M' → a ∈ adr M := fun a q => (adr_perm h).mem_iff.mpr (by rw [adr_app]; exact List.mem_append_left _ q)
  exact ⟨s.up, fun a o q => by rcases s.new a o q with z | z | z; exact .inl z; exact .inr (.inl z); exact .inr (.inr (e a z)), fun a o q n => s.keep a o q fun z => n (e a z), fun a q => by rcases s.adr_ a q with z | z; exact .inl (e a z); exact .inr z⟩
/-- some of ours is let go -/
theorem pb_drop (M' R : Mem) (h : M.Perm (M' ++ R)) (k : PB X T ρ M' A Nx Rt) : PB X T ρ M A Nx Rt :=
  PSs.imp k fun D σ H ⟨G, hs, sl, k1, k2⟩ => ⟨G, (hs.perm h).left, sl, fun σ' G' H' ρ' m n st hs' sl' => k1 σ' G' H' ρ' m n (st.more h) hs' sl', fun v G' H' d m r st hs' rd => k2 v G' H' d m r (st.more h) hs' rd⟩
theorem Step.less {G H G' H' : Hp} {M1 : Mem} (h : M1.Perm (M' ++ R)) (s : Step G H M G' H' M1) : Step G H M G' H' M' :=
  ⟨s.up, s.new, s.keep, fun a q => s.adr_ a ((adr_perm h).mem_iff.mpr (by rw [adr_app]; exact List.mem_append_left _ q))⟩
theorem pd_drop {M1 : Mem} {e : Expr} {d : D} (M' R : Mem) (h : M1.Perm (M' ++ R)) (he : PD X T ρ M e d M1) : PD X T ρ M e d M' :=
  PE.imp he fun σ H Q ⟨G, hs, sl, k⟩ => ⟨G, hs, sl, fun v G' H' st hs' r => k v G' H' (st.less h) (hs'.perm h).left r⟩
end
end LW
namespace BO
open PySem PySem.Spec PyProof.Rows L2 LW
abbrev ptD (pt : Pt) : D := .tup (pt.map D.int)
abbrev exD (e : Ex) : D := .tup [ptD e.1, .bl e.2]
abbrev exK (e : Ex) : D × D := (ptD e.1, .bl e.2)
abbrev tabD (E : List Ex) : D := .dic (E.map exK)
abbrev keyD (E : List Ex) : D := .tup (E.map exD)
def trD : Tr → D
  | .leaf b => .bl b
  | .node p l r => .tup [.int (p : Nat), trD l, trD r]
theorem prD_exK (E : List Ex) : (E.map exK).map LW.prD = E.map exD := by rw [List.map_map]; rfl
theorem encP_pt : EncP 1 ptD (fun pt => PyData.tuple (pt.map PyData.int)) := encP_int.tup
theorem encK_pt : EncK 1 ptD (fun pt => NestedKey.tup (pt.map NestedKey.num)) := encK_int.tup
theorem encP_ex : EncP 2 exD (fun e => PyData.tuple [PyData.tuple (e.1.map PyData.int), PyData.bool e.2]) := encP_pt.pair (encP_bl.mono (Nat.zero_le 1))
theorem encK_ex : EncK 2 exD (fun e => NestedKey.tup [NestedKey.tup (e.1.map NestedKey.num), NestedKey.num (if e.2 = true then 1 else 0)]) := encK_pt.pair (encK_bl.mono (Nat.zero_le 1))
theorem encK_key : EncK 3 keyD (fun E => NestedKey.tup (E.map fun e => NestedKey.tup [NestedKey.tup (e.1.map NestedKey.num), NestedKey.num (if e.2 = true then 1 else 0)])) := encK_ex.tup
theorem tKey_pt (pt : Pt) : tKey (ptD pt) := ⟨rfl, _, encK_pt.nk pt, Nat.le_trans (encK_pt.dep pt) (by decide)⟩
theorem tKey_key (E : List Ex) : tKey (keyD E) := ⟨rfl, _, encK_key.nk E, Nat.le_trans (encK_key.dep E) (by decide)⟩
theorem tKey_exK (E : List Ex) : ∀ p ∈ E.map exK, tKey p.1 := fun p hp => by
  obtain ⟨e, _, rfl⟩ := List.mem_map.mp hp
  exact tKey_pt e.1
theorem nk_nodup {E : List Ex} (h : (E.map (·.1)).Nodup) : ((E.map exK).map fun p => p.1.nk).Nodup := by
  have e : ((E.map exK).map fun p => p.1.nk) = (E.map (·.1)).map fun pt => (ptD pt).nk := by rw [List.map_map, List.map_map]; rfl
  rw [e]
  refine List.Pairwise.map _ (fun a b hab q => hab ?_) h
  rw [encK_pt.nk, encK_pt.nk] at q
  exact encK_pt.inj _ _ (Option.some.inj q)
theorem dmrg_ex {E : List Ex} (h : (E.map (·.1)).Nodup) : dmrg [] (E.map exK) = E.map exK := dmrg_new _ _ (by rw [List.nil_append]; exact nk_nodup h)
/-- the order that sorted() makes -/
abbrev Srtd (E : List Ex) : Prop := E.Pairwise fun a b => leE exD a b = true
theorem Srtd.hlf {E : List Ex} (h : Srtd E) (p : Nat) (b : Int) : Srtd (BO.hlf E p b) := List.Pairwise.sublist List.filter_sublist h
theorem srt_ex {E : List Ex} (hl : E.length ≤ sizeLine) : LW.Srt (E.map exD) := encP_ex.srt (by decide) hl (.inl fun e _ => ⟨_, _, rfl⟩)
theorem sort_ex (E : List Ex) : sortD (E.map exD) = (srtE exD E).map exD := sortD_enc exD E
/-! the memo -/
abbrev Mm := List (List Ex × Int)
def mmK (mm : Mm) : List (D × D) := mm.map fun p => (keyD p.1, .int p.2)
theorem tKey_mm (mm : Mm) : ∀ p ∈ mmK mm, tKey p.1 := fun p hp => by
  obtain ⟨e, _, rfl⟩ := List.mem_map.mp hp
  exact tKey_key e.1
theorem dget_mm (E : List Ex) : ∀ mm : Mm, dget (mmK mm) (keyD E) = (mm.find? fun p => decide (p.1 = E)).map fun p => D.int p.2
  | [] => rfl
  | p :: r => by
    unfold dget mmK
    rw [List.map_cons, List.find?_cons, List.find?_cons, nkEq_enc encK_key]
    cases hd : decide (p.1 = E) with
    | true => rfl
    | false => exact dget_mm E r
/-- what the memo holds: lots of the root's examples, their costs, and all their parts -/
structure MemOk (flat : Bool) (many : Nat) (E0 : List Ex) (mm : Mm) : Prop where
  sub : ∀ p ∈ mm, p.1.Sublist E0
  val : ∀ p ∈ mm, p.2 = cst flat many p.1
  nd : (mm.map (·.1)).Nodup
  clo : ∀ p ∈ mm, sameT p.1 = false → ∀ q, q < many → splits p.1 q = true → hlf p.1 q 0 ∈ mm.map (·.1) ∧ hlf p.1 q 1 ∈ mm.map (·.1)
theorem MemOk.nil (flat : Bool) (many : Nat) (E0 : List Ex) : MemOk flat many E0 [] := ⟨fun _ h => (by cases h), fun _ h => (by cases h), List.nodup_nil, fun _ h => (by cases h)⟩
theorem MemOk.get {flat : Bool} {many : Nat} {E0 E : List Ex} {mm : Mm} (h : MemOk flat many E0 mm) (hE : E ∈ mm.map (·.1)) : dget (mmK mm) (keyD E) = some (.int (cst flat many E)) := by
  rw [dget_mm]
  obtain ⟨p, hp, e⟩ := List.mem_map.mp hE
  cases hf : mm.find? fun p => decide (p.1 = E) with
  | none =>
    have := List.find?_eq_none.mp hf p hp
    simp [e] at this
  | some q =>
    have h1 := List.find?_some hf
    have h2 := List.mem_of_find?_eq_some hf
    show some (D.int q.2) = _
    rw [h.val q h2, of_decide_eq_true h1]
theorem dget_mm_none {E : List Ex} {mm : Mm} (hE : E ∉ mm.map (·.1)) : dget (mmK mm) (keyD E) = none := by
  rw [dget_mm]
  cases hf : mm.find? fun p => decide (p.1 = E) with
  | none => rfl
  | some q =>
    have h1 := List.find?_some hf
    have h2 := List.mem_of_find?_eq_some hf
    exact absurd (List.mem_map.mpr ⟨q, h2, of_decide_eq_true h1⟩) hE
theorem MemOk.put {flat : Bool} {many : Nat} {E0 E : List Ex} {mm : Mm} {c : Int} (h : MemOk flat many E0 mm) (hE : E ∉ mm.map (·.1)) (hs : E.Sublist E0) (hc : c = cst flat many E)
    (hcl : sameT E = false → ∀ q, q < many → splits E q = true → hlf E q 0 ∈ mm.map (·.1) ∧ hlf E q 1 ∈ mm.map (·.1)) : MemOk flat many E0 (mm ++ [(E, c)]) ∧ mmK (mm ++ [(E, c)]) = dput (mmK mm) (keyD E) (.int c) := by
  have up : ∀ {x}, x ∈ mm.map (·.1) → x ∈ (mm ++ [(E, c)]).map (·.1) := fun hx => by rw [List.map_append]; exact List.mem_append_left _ hx
  refine ⟨⟨fun p hp => ?_, fun p hp => ?_, ?_, fun p hp => ?_⟩, ?_⟩
  · rcases List.mem_append.mp hp with z | z
    · exact h.sub p z
    · cases List.mem_singleton.mp z; exact hs
  · rcases List.mem_append.mp hp with z | z
    · exact h.val p z
    · cases List.mem_singleton.mp z; exact hc
  · rw [List.map_append, List.nodup_append]
    refine ⟨h.nd, by simp, fun a ha b hb e => ?_⟩
    have hb : b = E := List.mem_singleton.mp hb
    exact hE (by rw [← hb, ← e]; exact ha)
  · intro hsm q hq hsp
    rcases List.mem_append.mp hp with z | z
    · obtain ⟨h1, h2⟩ := h.clo p z hsm q hq hsp
      exact ⟨up h1, up h2⟩
    · cases List.mem_singleton.mp z
      obtain ⟨h1, h2⟩ := hcl hsm q hq hsp
      exact ⟨up h1, up h2⟩
  · rw [dput_new (dget_mm_none hE)]
    unfold mmK
    rw [List.map_append]
    rfl
/-! how many lots there are -/
theorem nodup_le {α : Type} [DecidableEq α] : ∀ {xs ys : List α}, xs.Nodup → (∀ x ∈ xs, x ∈ ys) → xs.length ≤ ys.length
  | [], _, _, _ => Nat.zero_le _
  | x :: xs, ys, h, hm => by
    rw [List.nodup_cons] at h
    have hx := hm x List.mem_cons_self
    have := nodup_le (xs := xs) (ys := ys.erase x) h.2 fun y hy => by
      have ne : y ≠ x := fun e => h.1 (by rw [← e]; exact hy)
      exact (List.mem_erase_of_ne ne).mpr (hm y (List.mem_cons_of_mem _ hy))
    rw [List.length_erase_of_mem hx] at this
    have := List.length_pos_of_mem hx
    show xs.length + 1 ≤ _
    omega
def subs {α : Type} : List α → List (List α)
  | [] => [[]]
  | a :: r => subs r ++ (subs r).map (a :: ·)
theorem subs_len {α : Type} : ∀ l : List α, (subs l).length = 2 ^ l.length
  | [] => rfl
  | a :: r => by
    show (subs r ++ (subs r).map (a :: ·)).length = _
    rw [List.length_append, List.length_map, subs_len r, List.length_cons, Nat.pow_succ]
    omega
theorem subs_mem {α : Type} {s l : List α} (h : s.Sublist l) : s ∈ subs l := by
  induction h with
  | slnil => exact List.mem_singleton.mpr rfl
  | cons a _ ih => exact List.mem_append_left _ ih
  | cons_cons a _ ih => exact List.mem_append_right _ (List.mem_map.mpr ⟨_, ih, rfl⟩)
theorem MemOk.len {flat : Bool} {many : Nat} {E0 : List Ex} {mm : Mm} (h : MemOk flat many E0 mm) (h0 : E0.length ≤ 16) : (mmK mm).length < sizeLine := by
  have h1 := nodup_le h.nd (ys := subs E0) fun x hx => by
    obtain ⟨p, hp, rfl⟩ := List.mem_map.mp hx
    exact subs_mem (h.sub p hp)
  rw [subs_len, List.length_map] at h1
  have h2 : 2 ^ E0.length ≤ 2 ^ 16 := Nat.pow_le_pow_right (by decide) h0
  unfold mmK
  rw [List.length_map, sizeLine_eq]
  omega
/-! arguments of the defs -/
def seqD (l : Bool) (pt : Pt) : D := if l = true then .lst (pt.map D.int) else .tup (pt.map D.int)
structure CpA where
  l : Bool
  pt : Pt
  h1 : ∀ b ∈ pt, b = 0 ∨ b = 1
  h2 : pt.length ≤ 1000
structure CeA where
  many : Nat
  E : List Ex
  g : Good many E
  h : E.length ≤ 1000 ∧ many ≤ 1000
structure HasA where
  t : Tr
  pt : Pt
  h1 : ∀ b ∈ pt, b = 0 ∨ b = 1
  h2 : t.lt pt.length
structure TrA (n : Nat) where
  t : Tr
  h : t.dep ≤ n
structure TtA (n : Nat) where
  t : Tr
  h : t.dep ≤ n
  h2 : t.lt 10
  h3 : t.cnt ≤ 1000
theorem map_get {α β : Type} {f : α → β} {l : List α} {i : Nat} {y : β} (h : (l.map f)[i]? = some y) : ∃ x, l[i]? = some x ∧ y = f x := by
  rw [List.getElem?_map] at h
  cases e : l[i]? with
  | none => rw [e] at h; cases h
  | some x => rw [e] at h; cases h; exact ⟨x, rfl, rfl⟩
theorem dget_ex (pt : Pt) : ∀ E : List Ex, dget (E.map exK) (ptD pt) = (E.find? fun e => decide (e.1 = pt)).map fun e => D.bl e.2
  | [] => rfl
  | e :: r => by
    unfold dget
    rw [List.map_cons, List.find?_cons, List.find?_cons, nkEq_enc encK_pt]
    cases hd : decide (e.1 = pt) with
    | true => rfl
    | false => exact dget_ex pt r
theorem dget_ex_none {pt : Pt} {E : List Ex} (h : pt ∉ E.map (·.1)) : dget (E.map exK) (ptD pt) = none := by
  rw [dget_ex]
  cases hf : E.find? fun e => decide (e.1 = pt) with
  | none => rfl
  | some q =>
    have h1 := List.find?_some hf
    exact absurd (List.mem_map.mpr ⟨q, List.mem_of_find?_eq_some hf, of_decide_eq_true h1⟩) h
theorem take_none {E : List Ex} (h : (E.map (·.1)).Nodup) {i : Nat} {e : Ex} (he : E[i]? = some e) : dget ((E.take i).map exK) (ptD e.1) = none := by
  refine dget_ex_none fun hm => ?_
  obtain ⟨f, hf, q⟩ := List.mem_map.mp hm
  obtain ⟨j, hj⟩ := List.mem_iff_getElem?.mp hf
  rw [List.getElem?_take] at hj
  by_cases hji : j < i
  · rw [if_pos hji] at hj
    have e1 : (E.map (·.1))[j]? = some e.1 := by rw [List.getElem?_map, hj, ← q]; rfl
    have e2 : (E.map (·.1))[i]? = some e.1 := by rw [List.getElem?_map, he]; rfl
    have hjl := (List.getElem?_eq_some_iff.mp e1).1
    have := (List.getElem?_inj hjl h).mp (e1.trans e2.symm)
    omega
  · rw [if_neg hji] at hj
    cases hj
theorem isTree_tr (t : Tr) : isTree (trD t) = true := by cases t <;> rfl
theorem atI_pt {pt : Pt} {p : Nat} (h : p < pt.length) : L2.atI (pt.map D.int) ((p : Nat) : Int) = some (.int (pt.getD p 0)) := by
  refine atI_of (by omega) ?_
  show (pt.map D.int)[p]? = _
  rw [List.getElem?_map, List.getD_eq_getElem?_getD, List.getElem?_eq_getElem h]
  rfl
def saidS (b : Bool) : Str := if b = true then "yes" else "no"
def toldT : Tr → Str
  | .leaf b => saidS b
  | .node p l r => (toString ((p : Nat) : Int) : Str) ++ "(" ++ toldT l ++ " " ++ toldT r ++ ")"
theorem app_len (a b : Str) : (a ++ b).length = a.length + b.length := by
  show (a.cps ++ b.cps).size = _
  rw [Array.size_append]
  rfl
theorem dig_all : ∀ p < 10, ((toString ((p : Nat) : Int) : Str)).length = 1 := by decide +kernel
theorem dig_len {p : Nat} (h : p < 10) : ((toString ((p : Nat) : Int) : Str)).length = 1 := dig_all p h
theorem told_len : ∀ t : Tr, t.lt 10 → (toldT t).length ≤ 7 * t.cnt + 3
  | .leaf b, _ => by cases b <;> decide
  | .node p l r, h => by
    obtain ⟨h1, h2, h3⟩ := h
    have s1 := told_len l h2
    have s2 := told_len r h3
    have s3 := dig_len h1
    show (((((toString ((p : Nat) : Int) : Str) ++ "(") ++ toldT l) ++ " ") ++ toldT r ++ ")").length ≤ 7 * (1 + l.cnt + r.cnt) + 3
    rw [app_len, app_len, app_len, app_len, app_len, s3]
    show 1 + 1 + _ + 1 + _ + 1 ≤ _
    omega
theorem Good.sub {many : Nat} {E E0 : List Ex} (g : Good many E0) (h : E.Sublist E0) : Good many E :=
  ⟨fun e he => g.len e (h.subset he), fun e he => g.bit e (h.subset he), (h.map (·.1)).nodup g.nd⟩
structure TkA where
  E : List Ex
  s : Srtd E
  h : E.length ≤ 1000
structure HvA where
  E : List Ex
  many : Nat
  p : Nat
  g : Good many E
  hp : p < many
  h : E.length ≤ 1000
/-- a lot of the root's, and the memo -/
structure Root (flat : Bool) (many : Nat) (E0 : List Ex) : Prop where
  g : Good many E0
  s : Srtd E0
  h : E0.length ≤ 16
  m : many ≤ 1000
structure CoA (n : Nat) where
  q : Addr
  flat : Bool
  many : Nat
  E0 : List Ex
  E : List Ex
  mm : Mm
  r : Root flat many E0
  sub : E.Sublist E0
  len : E.length ≤ n
  ok : MemOk flat many E0 mm
abbrev coPost (flat : Bool) (many : Nat) (E0 E : List Ex) (mm mm' : Mm) : Prop := MemOk flat many E0 mm' ∧ (∀ k ∈ mm.map (·.1), k ∈ mm'.map (·.1)) ∧ E ∈ mm'.map (·.1)
structure GrA (n : Nat) extends CoA n where
  hE : E ∈ mm.map (·.1)
structure BeA where
  flat : Bool
  many : Nat
  E : List Ex
  r : Root flat many E
theorem Root.len {flat : Bool} {many : Nat} {E0 E : List Ex} (r : Root flat many E0) (h : E.Sublist E0) : E.length ≤ 16 := Nat.le_trans h.length_le r.h
theorem Root.srt {flat : Bool} {many : Nat} {E0 E : List Ex} (r : Root flat many E0) (h : E.Sublist E0) : Srtd E := List.Pairwise.sublist h r.s
theorem hlf_sub {E E0 : List Ex} (h : E.Sublist E0) (p : Nat) (b : Int) : (hlf E p b).Sublist E0 := List.filter_sublist.trans h
def waysN (flat : Bool) (many : Nat) (E : List Ex) (i : Nat) : List Int := ((List.range i).filter (splits E)).map fun p => 1 + comb flat (cst flat many (hlf E p 0)) (cst flat many (hlf E p 1))
theorem waysN_yes {flat : Bool} {many : Nat} {E : List Ex} {i : Nat} (h : splits E i = true) : waysN flat many E (i + 1) = waysN flat many E i ++ [1 + comb flat (cst flat many (hlf E i 0)) (cst flat many (hlf E i 1))] := by
  unfold waysN
  rw [List.range_succ, List.filter_append, List.map_append, List.filter_cons, if_pos h]
  rfl
theorem waysN_no {flat : Bool} {many : Nat} {E : List Ex} {i : Nat} (h : splits E i = false) : waysN flat many E (i + 1) = waysN flat many E i := by
  unfold waysN
  rw [List.range_succ, List.filter_append, List.map_append, List.filter_cons, if_neg (by rw [h]; exact Bool.false_ne_true)]
  exact List.append_nil _
theorem takes_dict (E : List Ex) : dmrg [] ((E.map fun e => (e.2, D.int 1)).map eBl) = (ddp [] (E.map (·.2))).map (oneD D.bl) := by
  have e : (E.map fun e => (e.2, D.int 1)).map eBl = (E.map (·.2)).map (oneD D.bl) := by rw [List.map_map, List.map_map]; rfl
  rw [e, dmrg_ones encK_bl]
theorem dput_same {kvs : List (D × D)} {k v : D} (hk : ∃ p ∈ kvs, nkEq p.1 k = true) (h : ∀ p ∈ kvs, nkEq p.1 k = true → p.2 = v) : dput kvs k v = kvs := by
  obtain ⟨p, hp, e⟩ := hk
  unfold dput
  rw [if_pos (List.any_eq_true.mpr ⟨p, hp, e⟩)]
  conv => rhs; rw [← List.map_id kvs]
  refine List.map_congr_left fun p hp => ?_
  by_cases e : nkEq p.1 k = true
  · rw [if_pos e, ← h p hp e]
    rfl
  · rw [if_neg e]
    rfl
theorem MemOk.put' {flat : Bool} {many : Nat} {E0 E : List Ex} {mm : Mm} {c : Int} (h : MemOk flat many E0 mm) (hs : E.Sublist E0) (hc : c = cst flat many E)
    (hcl : sameT E = false → ∀ q, q < many → splits E q = true → hlf E q 0 ∈ mm.map (·.1) ∧ hlf E q 1 ∈ mm.map (·.1)) : ∃ mm', coPost flat many E0 E mm mm' ∧ mmK mm' = dput (mmK mm) (keyD E) (.int c) := by
  by_cases hE : E ∈ mm.map (·.1)
  · refine ⟨mm, ⟨h, fun _ z => z, hE⟩, (dput_same ?_ fun p hp e => ?_).symm⟩
    · obtain ⟨p, hp, e⟩ := List.mem_map.mp hE
      exact ⟨(keyD p.1, .int p.2), List.mem_map.mpr ⟨p, hp, rfl⟩, by rw [nkEq_enc encK_key]; exact decide_eq_true e⟩
    · obtain ⟨q, hq, rfl⟩ := List.mem_map.mp hp
      rw [nkEq_enc encK_key] at e
      have e := of_decide_eq_true e
      show D.int q.2 = D.int c
      rw [h.val q hq, hc, e]
  · obtain ⟨o1, o2⟩ := h.put hE hs hc hcl
    exact ⟨mm ++ [(E, c)], ⟨o1, fun k z => by rw [List.map_append]; exact List.mem_append_left _ z, by rw [List.map_append]; exact List.mem_append_right _ List.mem_cons_self⟩, o2⟩
theorem waysN_len (flat : Bool) (many : Nat) (E : List Ex) (i : Nat) : (waysN flat many E i).length ≤ i := by
  unfold waysN
  rw [List.length_map]
  refine Nat.le_trans (List.length_filter_le _ _) ?_
  rw [List.length_range]
  exact Nat.le_refl _
theorem comb_if (flat : Bool) (a b : Int) : (if flat = true then D.int ([b].foldl max a) else D.int ([a, b].sum)) = .int (comb flat a b) := by
  cases flat
  · show D.int _ = D.int _
    simp [comb]
  · rfl
theorem splits_eq (E : List Ex) (p : Nat) : ((!decide (((hlf E p 0).map exK).length = 0)) && !decide (((hlf E p 1).map exK).length = 0)) = splits E p := by
  rw [List.length_map, List.length_map]
  rfl
theorem pick_at {flat : Bool} {many i : Nat} {E : List Ex} (hi : i < many) (h : splits E i = true) (h2 : 1 + comb flat (cst flat many (hlf E i 0)) (cst flat many (hlf E i 1)) = cst flat many E)
    (hn : ∀ p, p < i → splits E p = true → ¬ 1 + comb flat (cst flat many (hlf E p 0)) (cst flat many (hlf E p 1)) = cst flat many E) : pick flat many E = some i := by
  unfold pick
  rw [List.find?_range_eq_some]
  refine ⟨by rw [h, Bool.true_and]; exact decide_eq_true h2, List.mem_range.mpr hi, fun j hj => ?_⟩
  cases hs : splits E j with
  | false => rfl
  | true => rw [Bool.true_and, decide_eq_false (hn j hj hs)]; rfl
theorem pick_none {flat : Bool} {many : Nat} {E : List Ex} (hn : ∀ p, p < many → splits E p = true → ¬ 1 + comb flat (cst flat many (hlf E p 0)) (cst flat many (hlf E p 1)) = cst flat many E) : pick flat many E = none := by
  unfold pick
  refine List.find?_eq_none.mpr fun p hp => ?_
  cases hs : splits E p with
  | false => simp
  | true => rw [Bool.true_and, decide_eq_false (hn p (List.mem_range.mp hp) hs)]; simp
theorem first_ix {E : List Ex} (h : ¬ ((ddp [] (E.map (·.2))).map (oneD D.bl)).length = 0) : L2.atI (((ddp [] (E.map (·.2))).map (oneD D.bl)).map (·.1)) 0 = some (.bl (firstT E)) := by
  unfold firstT
  cases hq : ddp [] (E.map (·.2)) with
  | nil => rw [hq] at h; exact absurd rfl h
  | cons b r => exact atI_of (Int.le_refl _) rfl
theorem first_no {E : List Ex} (h : ((ddp [] (E.map (·.2))).map (oneD D.bl)).length = 0) : firstT E = false := by
  unfold firstT
  cases hq : ddp [] (E.map (·.2)) with
  | nil => rfl
  | cons b r => rw [hq] at h; cases h
theorem same_one {E : List Ex} : (decide (1 < (ddp [] (E.map (·.2))).length)) = !sameT E := by
  unfold sameT
  by_cases h : (ddp [] (E.map (·.2))).length < 2
  · rw [decide_eq_true h, decide_eq_false (by omega)]; rfl
  · rw [decide_eq_false h, decide_eq_true (by omega)]; rfl
theorem splits_nil (E : List Ex) (p : Nat) : ((!decide (hlf E p 0 = [])) && !decide (hlf E p 1 = [])) = splits E p := by
  unfold splits
  have e : ∀ l : List Ex, decide (l = []) = decide (l.length = 0) := fun l => by cases l <;> simp
  rw [e, e]
theorem comb_if2 (flat : Bool) (a b : Int) : (if flat = true then D.int (lmax [a, b]) else D.int ([a, b].sum)) = .int (comb flat a b) := by
  cases flat
  · show D.int _ = D.int _
    simp [comb]
  · rfl
end BO

set_option Elab.async false
set_option linter.all false
set_option maxRecDepth 100000
set_option maxHeartbeats 4000000
/-! check_point, check_examples, has, size, depth, said, told_tree. -/
namespace H66
open PySem PySem.Spec PyProof.Rows L2 LW BO
theorem sc_cp : FnScope ["point", "many", "found", "bit"] ["point", "many"] (defScope s_check_point) := ⟨rfl, rfl, rfl, by decide +kernel, rfl, by decide +kernel, by decide +kernel⟩
theorem sc_ce : FnScope ["examples", "many", "found", "point", "take"] ["examples", "many"] (defScope s_check_examples) := ⟨rfl, rfl, rfl, by decide +kernel, rfl, by decide +kernel, by decide +kernel⟩
theorem sc_has : FnScope ["tree", "point"] ["tree", "point"] (defScope s_has) := ⟨rfl, rfl, rfl, by decide +kernel, rfl, by decide +kernel, by decide +kernel⟩
theorem sc_size : FnScope ["tree"] ["tree"] (defScope s_size) := ⟨rfl, rfl, rfl, by decide +kernel, rfl, by decide +kernel, by decide +kernel⟩
theorem sc_depth : FnScope ["tree"] ["tree"] (defScope s_depth) := ⟨rfl, rfl, rfl, by decide +kernel, rfl, by decide +kernel, by decide +kernel⟩
theorem sc_said : FnScope ["answer"] ["answer"] (defScope s_said) := ⟨rfl, rfl, rfl, by decide +kernel, rfl, by decide +kernel, by decide +kernel⟩
theorem sc_tt : FnScope ["tree"] ["tree"] (defScope s_told_tree) := ⟨rfl, rfl, rfl, by decide +kernel, rfl, by decide +kernel, by decide +kernel⟩
section
variable {P : Program} {w : World} {K : PySem.W.Frag} {mg : Str → Option Value} {base : Heap} {T : List Addr}
theorem cp_ok (F : Fx P w K mg base) : Cal P w K mg base 2 (He.fAd K ("check_point", none)) ["point", "many"] (spP w (Tb K) (fun x : CpA => [seqD x.l x.pt, .int x.pt.length]) (fun x => ptD x.pt)) := by
  obtain ⟨fd, Fc, hb⟩ := F.fn_check_point
  refine ⟨⟨fd, LW.fn_ok Fc sc_cp (fun x => [some (seqD x.l x.pt), some (.int x.pt.length), none, none]) (fun x A outer s H E hr => ?_), hb⟩, Fc.kp⟩
  have nd := sc_cp.nd
  obtain ⟨tb, hT⟩ := F.tb_check_point
  obtain ⟨l, pt, h1, h2⟩ := x
  have gk := gk_of (P := P) (w := w) (H := H) (E := E) (outer := outer) (s := s) tb hT hr nd
  refine pb_set (d := ptD pt) (M1 := []) 2 ?_ nd ?_
  · cases l
    · exact pd_tupT F.free_tuple (pd_var 0)
    · exact pd_tupL LV.dat F.free_tuple (pd_var 0)
  refine pb_ifno (pdt_cast (pdt_or (k := false) (l := false) (pdt_cast (pdt_neI (i := (pt.length : Int)) (j := (pt.length : Int)) (pd_cast (pd_lenT (ds := pt.map D.int) F.free_len (pd_var 2)) (by rw [List.length_map])) (pd_var 1)) (by simp))
    fun _ => pdt_val (pd_cast (pd_any (k := 0) (own := [("bit", 3)]) (xs := pt) (kp := fun _ => true) (el := fun z => !([0, 1] : List Int).contains z) (enc := D.int) (us := fun z => [.int z]) gk F.free_any (pdi_tup (pd_var 2)) (genB_by (by kernel_rfl)) (fun Ag s H C cl code fp pn hr => pg_name nd rfl (Or.inl rfl) (.inr rfl)) (tgt_name 3) (by decide) trivial ⟨rfl, fun _ => rfl⟩
      (fun p hp Ag s H C cl code fp pn hr => pdts_nil) fun p hp _ Ag s H C cl code fp pn hr => pd_ninT (ns := [0, 1]) (pd_var 3) (pd_tup (pdl_cons pd_int (pdl_1 pd_int)))) ?_)) rfl) (pb_ret (pd_var 2) ⟨rfl, rfl⟩)
  have e : (pt.any fun e => true && !([0, 1] : List Int).contains e) = false := List.any_eq_false.mpr fun e he => by
    rcases h1 e he with h | h <;> rw [h] <;> decide
  rw [e]
theorem ce_ok (F : Fx P w K mg base) : Cal P w K mg base 3 (He.fAd K ("check_examples", none)) ["examples", "many"] (spP w (Tb K) (fun x : CeA => [.lst (x.E.map exD), .int x.many]) (fun x => tabD x.E)) := by
  obtain ⟨fd, Fc, hb⟩ := F.fn_check_examples
  refine ⟨⟨fd, LW.fn_ok Fc sc_ce (fun x => [some (.lst (x.E.map exD)), some (.int x.many), none, none, none]) (fun x A outer s H E hr => ?_), hb⟩, Fc.kp⟩
  have nd := sc_ce.nd
  obtain ⟨many, Es, g, hl⟩ := x
  refine pb_setR 2 pdr_dnew nd fun d m ⟨q, e1, e2⟩ => ?_
  subst e1 e2
  refine pb_for (pdi_list (ds := Es.map exD) LV.dat (pd_var 0)) (pg_tup rfl (pgs_cons (pg_name nd (i := 3) rfl (Or.inl rfl)) (pgs_cons (pg_name nd (i := 4) rfl (Or.inl rfl)) pgs_nil))) (tgt_tup [3, 4]) (fun i ρ m => m = [some (q, .dic ((Es.take i).map exK))] ∧ ∃ t u, ρ = [some (.lst (Es.map exD)), some (.int many), some (.ref q), t, u])
    ⟨rfl, none, none, rfl⟩ (fun _ _ _ _ _ => LV.dat) (fun i d h => ?_) (fun i d us ρ' m h1 h2 h3 => ?_) fun ρ' m h => ?_
  · obtain ⟨e, _, rfl⟩ := map_get h
    exact ⟨_, rfl⟩
  · obtain ⟨rfl, t, u, rfl⟩ := h3
    obtain ⟨e, he, rfl⟩ := map_get h1
    cases h2
    have hem := List.mem_of_getElem? he
    have hn := take_none g.nd he
    refine pb_set (d := ptD e.1) 3 (pd_cC (⟨false, e.1, g.bit e hem, by rw [g.len e hem]; exact hl.2⟩ : CpA) (cp_ok F) (hr.mono (by decide)) F.glo_check_point (pdl_cons (pd_var 3) (pdl_1 (pd_var 1))) (by show [ptD e.1, D.int (e.1.length : Nat)] = [ptD e.1, D.int (many : Nat)]; rw [g.len e hem])) nd ?_
    refine pb_ifno (pdt_cast (pdt_neB (p := e.2) (q := e.2) (pd_cast (pd_dget2 (kvs := (Es.take i).map exK) (dk := ptD e.1) (db := .bl e.2) dk_t (un_of hr (by decide)) (DV.own 0) (DV.own 0) (tKey_exK _) (tKey_pt _) (pd_var 2) (pd_var 3) (pd_var 4)) (by rw [hn]; rfl)) (pd_var 4)) (by simp)) ?_
    refine pb_dput (kvs := (Es.take i).map exK) (dk := ptD e.1) (dv := .bl e.2) 0 dk_t (un_of hr (by decide)) (pd_var 4) (pd_var 2) (pd_var 3) rfl (tKey_exK _) (tKey_pt _) ?_ (pb_nil ⟨?_, _, _, rfl⟩)
    · rw [List.length_map, List.length_take, sizeLine_eq]
      have := hl.1
      omega
    · show [some (q, Ob.dic (dput ((Es.take i).map exK) (ptD e.1) (.bl e.2)))] = _
      rw [dput_new hn, List.take_succ, he, List.map_append]
      rfl
  · obtain ⟨rfl, t, u, rfl⟩ := h
    refine pb_retR (pdr_freezeD (R' := fun d m => d = tabD Es ∧ m = []) (M1 := []) (pdr_of (pd_var 2)) fun d m ⟨e1, e2⟩ => ⟨q, Es.map exK, e1, ?_, rfl, rfl⟩) fun d m h => h
    rw [e2, List.length_map, List.take_length]
    rfl
theorem has_ok (F : Fx P w K mg base) : Cal P w K mg base 1 (He.fAd K ("has", none)) ["tree", "point"] (spP w T (fun x : HasA => [trD x.t, ptD x.pt]) (fun x => .bl (x.t.has x.pt))) := by
  obtain ⟨fd, Fc, hb⟩ := F.fn_has
  refine ⟨⟨fd, LW.fn_ok Fc sc_has (fun x => [some (trD x.t), some (ptD x.pt)]) (fun x A outer s H E hr => ?_), hb⟩, Fc.kp⟩
  have nd := sc_has.nd
  obtain ⟨t0, pt, h1, h2⟩ := x
  refine pb_while (fun ρ m k m1 => m = [] ∧ m1 = [] ∧ ∃ t : Tr, ρ = [some (trD t), some (ptD pt)] ∧ t.lt pt.length ∧ t.has pt = t0.has pt ∧ k = !(trD t).isB) (fun ρ _ => match ρ with
    | some d :: _ => sizeOf d
    | _ => 0) ⟨_, [], rfl, rfl, t0, rfl, h2, rfl, rfl⟩ (fun ρ' m k m1 h => ?_) (fun ρ' m m1 h => ?_) fun ρ' m m1 h => ?_
  · obtain ⟨rfl, rfl, t, rfl, _, _, rfl⟩ := h
    exact pdt_not (pdt_val (pd_isB (isTree_tr t) F.free_isinstance F.free_bool (pd_var 0)))
  · obtain ⟨rfl, rfl, t, rfl, ht, he, hk⟩ := h
    cases t with
    | leaf b => cases hk
    | node p l r =>
      obtain ⟨hp, hl, hrr⟩ := ht
      have hb := getD_bit h1 p
      have hix : L2.atI (pt.map D.int) ((p : Nat) : Int) = some (.int (pt.getD p 0)) := atI_pt hp
      refine pb_set (d := if pt.getD p 0 = 0 then trD l else trD r) 0 (pd_ixT (ds := [.int (p : Nat), trD l, trD r]) (i := 1 + pt.getD p 0) ?_ (pd_var 0) (pd_add pd_int (pd_ixT (ds := pt.map D.int) hix (pd_var 1) (pd_ixT (ds := [.int (p : Nat), trD l, trD r]) rfl (pd_var 0) pd_int)))) nd (pb_nil ⟨?_, _, [], rfl, rfl, if pt.getD p 0 = 0 then l else r, ?_, ?_, ?_, rfl⟩)
      · rcases hb with h | h <;> rw [h] <;> rfl
      · show sizeOf (if pt.getD p 0 = 0 then trD l else trD r) < sizeOf (D.tup [.int (p : Nat), trD l, trD r])
        split <;> simp <;> omega
      · show [some (if pt.getD p 0 = 0 then trD l else trD r), some (ptD pt)] = _
        split <;> rfl
      · split
        · exact hl
        · exact hrr
      · rw [← he]
        show _ = if pt.getD p 0 = 0 then l.has pt else r.has pt
        split <;> rfl
  · obtain ⟨rfl, rfl, t, rfl, ht, he, hk⟩ := h
    cases t with
    | leaf b => exact pb_ret (pd_var 0) ⟨by show D.bl b = D.bl (t0.has pt); rw [← he]; rfl, rfl⟩
    | node p l r => cases hk
theorem size_st (F : Fx P w K mg base) (n : Nat) (ih : ∀ m, n = m + 1 → Cal P w K mg base (m + 1) (He.fAd K ("size", none)) ["tree"] (spP w T (fun x : TrA m => [trD x.t]) (fun x => .int x.t.size))) : Cal P w K mg base (n + 1) (He.fAd K ("size", none)) ["tree"] (spP w T (fun x : TrA n => [trD x.t]) (fun x => .int x.t.size)) := by
    obtain ⟨fd, Fc, hb⟩ := F.fn_size
    refine ⟨⟨fd, LW.fn_ok Fc sc_size (fun x => [some (trD x.t)]) (fun x A outer s H E hr => ?_), hb⟩, Fc.kp⟩
    obtain ⟨t, ht⟩ := x
    refine pb_ret (d := .int t.size) (pd_ifc (k := (trD t).isB) (pdt_val (pd_isB (isTree_tr t) F.free_isinstance F.free_bool (pd_var 0))) (fun hk => ?_) fun hk => ?_) ⟨rfl, rfl⟩
    · cases t with
      | leaf b => exact pd_int
      | node p l r => cases hk
    · cases t with
      | leaf b => cases hk
      | node p l r =>
        cases n with
        | zero => exact absurd ht (Nat.not_succ_le_zero _)
        | succ n =>
          have hl : l.dep ≤ n := by have : max l.dep r.dep + 1 ≤ n + 1 := ht; omega
          have hr' : r.dep ≤ n := by have : max l.dep r.dep + 1 ≤ n + 1 := ht; omega
          exact pd_add (pd_add pd_int (pd_cC (val := fun x : TrA n => .int x.t.size) (⟨l, hl⟩ : TrA n) (ih n rfl) hr F.glo_size (pdl_1 (pd_ixT (ds := [.int (p : Nat), trD l, trD r]) rfl (pd_var 0) pd_int)) rfl))
            (pd_cC (val := fun x : TrA n => .int x.t.size) (⟨r, hr'⟩ : TrA n) (ih n rfl) hr F.glo_size (pdl_1 (pd_ixT (ds := [.int (p : Nat), trD l, trD r]) rfl (pd_var 0) pd_int)) rfl)
theorem size_ok (F : Fx P w K mg base) (n : Nat) : Cal P w K mg base (n + 1) (He.fAd K ("size", none)) ["tree"] (spP w T (fun x : TrA n => [trD x.t]) (fun x => .int x.t.size)) := by
  induction n with
  | zero => exact size_st F 0 fun m h => by cases h
  | succ n ih => exact size_st F (n + 1) fun m h => by cases h; exact ih
theorem depth_st (F : Fx P w K mg base) (n : Nat) (ih : ∀ m, n = m + 1 → Cal P w K mg base (m + 1) (He.fAd K ("depth", none)) ["tree"] (spP w T (fun x : TrA m => [trD x.t]) (fun x => .int x.t.depth))) : Cal P w K mg base (n + 1) (He.fAd K ("depth", none)) ["tree"] (spP w T (fun x : TrA n => [trD x.t]) (fun x => .int x.t.depth)) := by
    obtain ⟨fd, Fc, hb⟩ := F.fn_depth
    refine ⟨⟨fd, LW.fn_ok Fc sc_depth (fun x => [some (trD x.t)]) (fun x A outer s H E hr => ?_), hb⟩, Fc.kp⟩
    obtain ⟨t, ht⟩ := x
    refine pb_ret (d := .int t.depth) (pd_ifc (k := (trD t).isB) (pdt_val (pd_isB (isTree_tr t) F.free_isinstance F.free_bool (pd_var 0))) (fun hk => ?_) fun hk => ?_) ⟨rfl, rfl⟩
    · cases t with
      | leaf b => exact pd_int
      | node p l r => cases hk
    · cases t with
      | leaf b => cases hk
      | node p l r =>
        cases n with
        | zero => exact absurd ht (Nat.not_succ_le_zero _)
        | succ n =>
          have hl : l.dep ≤ n := by have : max l.dep r.dep + 1 ≤ n + 1 := ht; omega
          have hr' : r.dep ≤ n := by have : max l.dep r.dep + 1 ≤ n + 1 := ht; omega
          exact pd_add pd_int (pd_max2 F.free_max (pd_cC (val := fun x : TrA n => .int x.t.depth) (⟨l, hl⟩ : TrA n) (ih n rfl) hr F.glo_depth (pdl_1 (pd_ixT (ds := [.int (p : Nat), trD l, trD r]) rfl (pd_var 0) pd_int)) rfl)
            (pd_cC (val := fun x : TrA n => .int x.t.depth) (⟨r, hr'⟩ : TrA n) (ih n rfl) hr F.glo_depth (pdl_1 (pd_ixT (ds := [.int (p : Nat), trD l, trD r]) rfl (pd_var 0) pd_int)) rfl))
theorem depth_ok (F : Fx P w K mg base) (n : Nat) : Cal P w K mg base (n + 1) (He.fAd K ("depth", none)) ["tree"] (spP w T (fun x : TrA n => [trD x.t]) (fun x => .int x.t.depth)) := by
  induction n with
  | zero => exact depth_st F 0 fun m h => by cases h
  | succ n ih => exact depth_st F (n + 1) fun m h => by cases h; exact ih
theorem said_ok (F : Fx P w K mg base) : Cal P w K mg base 1 (He.fAd K ("said", none)) ["answer"] (spP w T (fun b : Bool => [.bl b]) (fun b => .str (saidS b))) := by
  obtain ⟨fd, Fc, hb⟩ := F.fn_said
  refine ⟨⟨fd, LW.fn_ok Fc sc_said (fun b => [some (.bl b)]) (fun b A outer s H E hr => ?_), hb⟩, Fc.kp⟩
  exact pb_ret (pd_cast (pd_if (k := b) (pdt_val (pd_var 0)) (fun _ => pd_str) fun _ => pd_str) (by cases b <;> rfl)) ⟨rfl, rfl⟩
theorem tt_st (F : Fx P w K mg base) (n : Nat) (ih : ∀ m, n = m + 1 → Cal P w K mg base (m + 2) (He.fAd K ("told_tree", none)) ["tree"] (spP w T (fun x : TtA m => [trD x.t]) (fun x => .str (toldT x.t)))) : Cal P w K mg base (n + 2) (He.fAd K ("told_tree", none)) ["tree"] (spP w T (fun x : TtA n => [trD x.t]) (fun x => .str (toldT x.t))) := by
    obtain ⟨fd, Fc, hb⟩ := F.fn_told_tree
    refine ⟨⟨fd, LW.fn_ok Fc sc_tt (fun x => [some (trD x.t)]) (fun x A outer s H E hr => ?_), hb⟩, Fc.kp⟩
    obtain ⟨t, ht, hlt, hc⟩ := x
    refine pb_ifret (k := (trD t).isB) (pdt_val (pd_isB (isTree_tr t) F.free_isinstance F.free_bool (pd_var 0))) (fun hk => ?_) fun hk => ?_
    · cases t with
      | leaf b => exact pb_ret (pd_cC b (said_ok F) (hr.mono (by omega)) F.glo_said (pdl_1 (pd_var 0)) rfl) ⟨rfl, rfl⟩
      | node p l r => cases hk
    · cases t with
      | leaf b => cases hk
      | node p l r =>
        cases n with
        | zero => exact absurd ht (Nat.not_succ_le_zero _)
        | succ n =>
          have hl : l.dep ≤ n := by have : max l.dep r.dep + 1 ≤ n + 1 := ht; omega
          have hr' : r.dep ≤ n := by have : max l.dep r.dep + 1 ≤ n + 1 := ht; omega
          obtain ⟨hp, l1, l2⟩ := hlt
          have hc' : 1 + l.cnt + r.cnt ≤ 1000 := hc
          have s1 := told_len l l1
          have s2 := told_len r l2
          have s3 := dig_len hp
          have hz := sizeLine_eq
          refine pb_ret (pd_addS (x := (toString ((p : Nat) : Int) : Str) ++ "(" ++ toldT l ++ " " ++ toldT r) (y := ")") ?_ (pd_addS ?_ (pd_addS ?_ (pd_addS ?_ (pd_addS ?_ (pd_strI ?_ F.free_str (pd_ixT (ds := [.int (p : Nat), trD l, trD r]) rfl (pd_var 0) pd_int)) pd_str)
            (pd_cC (val := fun x : TtA n => .str (toldT x.t)) (⟨l, hl, l1, by omega⟩ : TtA n) (ih n rfl) hr F.glo_told_tree (pdl_1 (pd_ixT (ds := [.int (p : Nat), trD l, trD r]) rfl (pd_var 0) pd_int)) rfl)) pd_str)
            (pd_cC (val := fun x : TtA n => .str (toldT x.t)) (⟨r, hr', l2, by omega⟩ : TtA n) (ih n rfl) hr F.glo_told_tree (pdl_1 (pd_ixT (ds := [.int (p : Nat), trD l, trD r]) rfl (pd_var 0) pd_int)) rfl)) pd_str) ⟨rfl, rfl⟩
          · rw [app_len, app_len, app_len, app_len, s3]
            show 1 + 1 + _ + 1 + _ + 1 ≤ _
            omega
          · rw [app_len, app_len, app_len, s3]
            show 1 + 1 + _ + 1 + _ ≤ _
            omega
          · rw [app_len, app_len, s3]
            show 1 + 1 + _ + 1 ≤ _
            omega
          · rw [app_len, s3]
            show 1 + 1 + _ ≤ _
            omega
          · rw [s3]
            show 1 + 1 ≤ _
            omega
          · rw [Int.natAbs_natCast]
            have : p.log2 ≤ p := Nat.log2_le_self p
            omega
theorem tt_ok (F : Fx P w K mg base) (n : Nat) : Cal P w K mg base (n + 2) (He.fAd K ("told_tree", none)) ["tree"] (spP w T (fun x : TtA n => [trD x.t]) (fun x => .str (toldT x.t))) := by
  induction n with
  | zero => exact tt_st F 0 fun m h => by cases h
  | succ n ih => exact tt_st F (n + 1) fun m h => by cases h; exact ih
end
end H66

set_option Elab.async false
set_option linter.all false
set_option maxRecDepth 100000
set_option maxHeartbeats 4000000
/-! table_key, halves, cost_of. -/
namespace H66
open PySem PySem.Spec PyProof.Rows L2 LW BO
theorem sc_tk : FnScope ["table"] ["table"] (defScope s_table_key) := ⟨rfl, rfl, rfl, by decide +kernel, rfl, by decide +kernel, by decide +kernel⟩
theorem sc_hv : FnScope ["table", "place", "bit", "point", "take"] ["table", "place"] (defScope s_halves) := ⟨rfl, rfl, rfl, by decide +kernel, rfl, by decide +kernel, by decide +kernel⟩
theorem sc_co : FnScope ["table", "many", "flat", "found", "ways", "place", "low", "high", "sides", "take"] ["table", "many", "flat", "found"] (defScope s_cost_of) := ⟨rfl, rfl, rfl, by decide +kernel, rfl, by decide +kernel, by decide +kernel⟩
section
variable {P : Program} {w : World} {K : PySem.W.Frag} {mg : Str → Option Value} {base : Heap} {T : List Addr}
theorem tk_ok (F : Fx P w K mg base) : Cal P w K mg base 1 (He.fAd K ("table_key", none)) ["table"] (spP w T (fun x : TkA => [tabD x.E]) (fun x => keyD x.E)) := by
  obtain ⟨fd, Fc, hb⟩ := F.fn_table_key
  refine ⟨⟨fd, LW.fn_ok Fc sc_tk (fun x => [some (tabD x.E)]) (fun x A outer s H E hr => ?_), hb⟩, Fc.kp⟩
  obtain ⟨Es, hs, hl⟩ := x
  have hz := sizeLine_eq
  refine pb_ret (pd_tupL LV.dat F.free_tuple (pd_cast (pd_sortItems (kvs := Es.map exK) DV.dat (by rw [prD_exK]; exact srt_ex (by omega)) (un_of hr (by decide)) F.free_sorted (pd_var 0)) ?_)) ⟨rfl, rfl⟩
  rw [prD_exK, sort_ex, srtE_same exD hs]
theorem hv_ok (F : Fx P w K mg base) : Cal P w K mg base 1 (He.fAd K ("halves", none)) ["table", "place"] (spP w T (fun x : HvA => [tabD x.E, .int (x.p : Nat)]) (fun x => .tup [tabD (hlf x.E x.p 0), tabD (hlf x.E x.p 1)])) := by
  obtain ⟨fd, Fc, hb⟩ := F.fn_halves
  refine ⟨⟨fd, LW.fn_ok Fc sc_hv (fun x => [some (tabD x.E), some (.int (x.p : Nat)), none, none, none]) (fun x A outer s H E hr => ?_), hb⟩, Fc.kp⟩
  have nd := sc_hv.nd
  obtain ⟨Es, many, p, g, hp, hl⟩ := x
  have hz := sizeLine_eq
  refine pb_ret (pd_tupL LV.dat F.free_tuple (pd_cast (pd_lc (own := [("bit", 2)]) (xs := [0, 1]) (kp := fun _ => true) (enc := D.int) (us := fun b => [.int b]) (ed := fun b => tabD (hlf Es p b)) (pdi_tup (ds := [.int 0, .int 1]) (pd_tup (pdl_cons pd_int (pdl_1 pd_int)))) nd (blkOk_by (by kernel_rfl)) (fun s H C cl fp => pg_name nd rfl (Or.inr rfl)) (tgt_name 2) (by decide) trivial ⟨rfl, fun _ => rfl⟩ (by decide)
    (fun b hb s H C cl fp => pdts_nil) fun b hb _ s H C cl fp => ?_) rfl)) ⟨rfl, rfl⟩
  refine pd_cast (pd_dictH (kvs := (hlf Es p b).map exK) (da := .lst ((hlf Es p b).map exD)) (un_of hr (by decide)) (by rw [prD_exK]; exact LV.dat) (fun z hz => (tKey_exK _ z hz).1) (fun z hz => (tKey_exK _ z hz).2) ?_ F.free_dict
    (pd_cast (pd_lc (own := [("point", 3), ("take", 4)]) (xs := Es) (kp := fun e => decide (e.1.getD p 0 = b)) (enc := exD) (us := fun e => [ptD e.1, .bl e.2]) (ed := exD) (pdi_items (kvs := Es.map exK) (pd_var 0)) nd (blkOk_by (by kernel_rfl)) (fun s H C cl fp => pg_tup rfl (pgs_cons (pg_name nd (i := 3) rfl (Or.inl rfl)) (pgs_cons (pg_name nd (i := 4) rfl (Or.inl rfl)) pgs_nil))) (tgt_tup [3, 4]) (by decide) trivial ⟨prD_exK Es, fun _ => rfl⟩ (by omega)
      (fun e he s H C cl fp => pdts_one (pdt_eqI (pd_ixT (ds := e.1.map D.int) (i := (p : Nat)) (atI_pt (by rw [g.len e he]; exact hp)) (pd_var 3) (pd_var 1)) (pd_var 2))) fun e he _ s H C cl fp => pd_tup (pdl_cons (pd_var 3) (pdl_1 (pd_var 4)))) rfl)) ?_
  · rw [List.length_map]
    have := hlf_le Es p b
    omega
  · rw [dmrg_ex (g.hlf p b).nd]
theorem co_st (F : Fx P w K mg base) (n : Nat) (ih : ∀ m, n = m + 1 → Cal P w K mg base (m + 2) (He.fAd K ("cost_of", none)) ["table", "many", "flat", "found"] (spC w T (fun x : CoA m => [tabD x.E, .int (x.many : Nat), .bl x.flat, .ref x.q]) (fun x => [some (x.q, .dic (mmK x.mm))]) (fun x d m => d = .int (cst x.flat x.many x.E) ∧ ∃ mm', coPost x.flat x.many x.E0 x.E x.mm mm' ∧ m = [some (x.q, .dic (mmK mm'))]))) :
    Cal P w K mg base (n + 2) (He.fAd K ("cost_of", none)) ["table", "many", "flat", "found"] (spC w T (fun x : CoA n => [tabD x.E, .int (x.many : Nat), .bl x.flat, .ref x.q]) (fun x => [some (x.q, .dic (mmK x.mm))]) (fun x d m => d = .int (cst x.flat x.many x.E) ∧ ∃ mm', coPost x.flat x.many x.E0 x.E x.mm mm' ∧ m = [some (x.q, .dic (mmK mm'))])) := by
  obtain ⟨fd, Fc, hb⟩ := F.fn_cost_of
  refine ⟨⟨fd, LW.fn_ok Fc sc_co (fun x => [some (tabD x.E), some (.int (x.many : Nat)), some (.bl x.flat), some (.ref x.q), none, none, none, none, none, none]) (fun x A outer s H E hr => ?_), hb⟩, Fc.kp⟩
  have nd := sc_co.nd
  obtain ⟨q, flat, many, E0, Es, mm, r, sub, len, ok⟩ := x
  have hz := sizeLine_eq
  have hle := r.len sub
  have hs := r.srt sub
  have g := r.g.sub sub
  have hm := r.m
  have hr1 : Room 1 (A.deeper (envOfC "cost_of" (defScope s_cost_of) s.heap.objs.size (He.fAd K ("cost_of", none)) (.ref (He.codeOf K ("cost_of", none))))) := hr.mono (by omega)
  -- the end: the cost is read
  have fin : ∀ (mm' : Mm) (ρ : List (Option D)), coPost flat many E0 Es mm mm' → ρ[0]? = some (some (tabD Es)) → ρ[3]? = some (some (.ref q)) →
      PB (cxOf CX0 P w K mg base ["table", "many", "flat", "found", "ways", "place", "low", "high", "sides", "take"] "cost_of" (defScope s_cost_of) (He.fAd K ("cost_of", none)) (.ref (He.codeOf K ("cost_of", none))) A outer s H E).nox T ρ [some (q, .dic (mmK mm'))] ((defBody s_cost_of).drop 1)
        (fun _ m => D.non = .int (cst flat many Es) ∧ ∃ mm', coPost flat many E0 Es mm mm' ∧ m = [some (q, .dic (mmK mm'))]) (fun d m => d = .int (cst flat many Es) ∧ ∃ mm', coPost flat many E0 Es mm mm' ∧ m = [some (q, .dic (mmK mm'))]) := fun mm' ρ hp h0 h3 =>
    pb_ret (pd_dsub (kvs := mmK mm') (dk := keyD Es) dk_t (un_of hr1 (by decide)) (DV.own 0) (tKey_mm _) (tKey_key _) (hp.1.get hp.2.2) (pd_var 3 h3) (pd_cC (⟨Es, hs, by omega⟩ : TkA) (tk_ok F) hr1 F.glo_table_key (pdl_1 (pd_var 0 h0)) rfl)) ⟨rfl, mm', hp, rfl⟩
  have hkey : PD (cxOf CX0 P w K mg base ["table", "many", "flat", "found", "ways", "place", "low", "high", "sides", "take"] "cost_of" (defScope s_cost_of) (He.fAd K ("cost_of", none)) (.ref (He.codeOf K ("cost_of", none))) A outer s H E).nox T = PD _ T := rfl
  by_cases hin : Es ∈ mm.map (·.1)
  · refine pb_ifno (pdt_cast (pdt_dnin (kvs := mmK mm) (da := keyD Es) dk_t (un_of hr1 (by decide)) (DV.own 0) (tKey_mm _) (tKey_key _) (pd_cC (⟨Es, hs, by omega⟩ : TkA) (tk_ok F) hr1 F.glo_table_key (pdl_1 (pd_var 0)) rfl) (pd_var 3)) (by rw [ok.get hin]; rfl)) ?_
    exact fin mm _ ⟨ok, fun _ h => h, hin⟩ rfl rfl
  · refine pb_if (k := true) (Nx1 := fun ρ' m => ρ'[0]? = some (some (tabD Es)) ∧ ρ'[3]? = some (some (.ref q)) ∧ ∃ mm', coPost flat many E0 Es mm mm' ∧ m = [some (q, .dic (mmK mm'))])
      (pdt_cast (pdt_dnin (kvs := mmK mm) (da := keyD Es) dk_t (un_of hr1 (by decide)) (DV.own 0) (tKey_mm _) (tKey_key _) (pd_cC (⟨Es, hs, by omega⟩ : TkA) (tk_ok F) hr1 F.glo_table_key (pdl_1 (pd_var 0)) rfl) (pd_var 3)) (by rw [dget_mm_none hin]; rfl)) (fun _ => ?_) (fun h => by cases h) fun ρ' m ⟨h1, h2, mm', h3, h4⟩ => by subst h4; exact fin mm' ρ' h3 h1 h2
    refine pb_one (pb1_if (k := sameT Es) (pdt_cast (pdt_lt (i := ((ddp [] (Es.map (·.2))).length : Int)) (pd_cast (pd_lenD (kvs := (ddp [] (Es.map (·.2))).map (oneD D.bl)) DV.dat F.free_len (pd_cast (pd_dictB (ps := Es.map fun e => (e.2, .int 1)) (da := .lst (Es.map fun e => .tup [.bl e.2, .int 1])) ?_ ?_ F.free_dict
      (pd_cast (pd_lc (own := [("take", 9)]) (xs := Es) (kp := fun _ => true) (enc := fun e => .bl e.2) (us := fun e => [.bl e.2]) (ed := fun e => .tup [.bl e.2, .int 1]) (pdi_values (kvs := Es.map exK) (pd_var 0)) nd (blkOk_by (by kernel_rfl)) (fun s H C cl fp => pg_name nd rfl (Or.inl rfl)) (tgt_name 9) (by decide) trivial ⟨by rw [List.map_map]; rfl, fun _ => rfl⟩
        (by omega) (fun e he s H C cl fp => pdts_nil) fun e he _ s H C cl fp => pd_tup (pdl_cons (pd_var 9) (pdl_1 pd_int))) (by rw [filter_yes]))) (by rw [takes_dict]))) (by rw [List.length_map])) pd_int) ?_) (fun hsm => ?_) fun hsm => ?_)
    · rw [List.map_map, List.map_map]
      exact LV.dat
    · rw [List.length_map]
      omega
    · unfold sameT
      rw [decide_eq_decide]
      omega
    · obtain ⟨o1, o2⟩ := ok.put (c := 0) hin sub (cst_same hsm).symm fun h => by rw [hsm] at h; cases h
      refine pb_dput (kvs := mmK mm) (dk := keyD Es) (dv := .int 0) 0 dk_t (un_of hr1 (by decide)) pd_int (pd_var 3) (pd_cC (⟨Es, hs, by omega⟩ : TkA) (tk_ok F) hr1 F.glo_table_key (pdl_1 (pd_var 0)) rfl) rfl (tKey_mm _) (tKey_key _) (ok.len r.h) (pb_nil ⟨rfl, rfl, mm ++ [(Es, 0)], ⟨o1, fun k h => by rw [List.map_append]; exact List.mem_append_left _ h, by rw [List.map_append]; exact List.mem_append_right _ List.mem_cons_self⟩, by rw [o2]; rfl⟩)
    · refine pb_setR 4 (pdr_lst pdl_nil) nd fun d m ⟨wq, e1, e2⟩ => ?_
      subst e1 e2
      refine pb_for (pdi_range1 (j := (many : Nat)) F.free_range (pd_var 1) (by omega) (by omega)) (pg_name (i := 5) nd rfl (Or.inl rfl)) (tgt_name 5)
        (fun i ρ m => ∃ mm' t5 t6 t7 t8, ρ = [some (tabD Es), some (.int (many : Nat)), some (.bl flat), some (.ref q), some (.ref wq), t5, t6, t7, t8, none] ∧ m = [some (q, .dic (mmK mm')), some (wq, .lst ((waysN flat many Es i).map D.int))] ∧ MemOk flat many E0 mm' ∧ (∀ k ∈ mm.map (·.1), k ∈ mm'.map (·.1)) ∧ ∀ p, p < i → splits Es p = true → hlf Es p 0 ∈ mm'.map (·.1) ∧ hlf Es p 1 ∈ mm'.map (·.1))
        ⟨mm, none, none, none, none, rfl, rfl, ok, fun _ h => h, fun p h => absurd h (Nat.not_lt_zero _)⟩ (fun _ _ _ _ _ => trivial) (fun i d h => ⟨_, rfl⟩) (fun i d us ρ' m h1 h2 h3 => ?_) fun ρ' m h => ?_
      · obtain ⟨hi, e⟩ := rngD_at h1 h2
        subst e
        obtain ⟨mm1, t5, t6, t7, t8, rfl, rfl, ok1, mono1, cl1⟩ := h3
        have hi' : i < many := hi
        refine pb_asgG (pd_cC (⟨Es, many, i, g, hi', by omega⟩ : HvA) (hv_ok F) hr1 F.glo_halves (pdl_cons (pd_var 0) (pdl_1 (pd_var 5))) rfl) (pg_tup rfl (pgs_cons (pg_name nd (i := 6) rfl (Or.inl rfl)) (pgs_cons (pg_name nd (i := 7) rfl (Or.inl rfl)) pgs_nil))) (tgt_tup [6, 7]) rfl ?_
        refine pb_one (pb1_if (k := splits Es i) (pdt_cast (pdt_and (pdt_ne0 (kvs := (hlf Es i 0).map exK) (un_of (n := 0) hr1 (by decide)) DV.dat (pd_var 6)) fun _ => pdt_ne0 (kvs := (hlf Es i 1).map exK) (un_of (n := 0) hr1 (by decide)) DV.dat (pd_var 7)) (splits_eq Es i)) (fun hsp => ?_) fun hsp => pb_nil ⟨mm1, _, _, _, _, rfl, by rw [waysN_no hsp], ok1, mono1, fun p hp h => ?_⟩)
        · obtain ⟨l0, l1⟩ := hlf_lt hsp
          obtain ⟨n', rfl⟩ : ∃ m, n = m + 1 := ⟨n - 1, by omega⟩
          have il := ih n' rfl
          refine pb_setR 8 (pdr_tup (RL := fun ds m => ds = [.int (cst flat many (hlf Es i 0)), .int (cst flat many (hlf Es i 1))] ∧ ∃ mm3, (MemOk flat many E0 mm3 ∧ (∀ k ∈ mm1.map (·.1), k ∈ mm3.map (·.1)) ∧ hlf Es i 0 ∈ mm3.map (·.1) ∧ hlf Es i 1 ∈ mm3.map (·.1)) ∧ m = [some (q, .dic (mmK mm3)), some (wq, .lst ((waysN flat many Es i).map D.int))])
            (pdlr_cons (pdr_imp (R' := fun d m => d = .int (cst flat many (hlf Es i 0)) ∧ ∃ mm2, coPost flat many E0 (hlf Es i 0) mm1 mm2 ∧ m = [some (q, .dic (mmK mm2)), some (wq, .lst ((waysN flat many Es i).map D.int))]) (pdr_cC (⟨q, flat, many, E0, hlf Es i 0, mm1, r, hlf_sub sub i 0, by omega, ok1⟩ : CoA n') il hr F.glo_cost_of (pdl_cons (pd_var 6) (pdl_cons (pd_var 1) (pdl_cons (pd_var 2) (pdl_1 (pd_var 3))))) rfl (Fram.one 0)) fun d m ⟨m', e1, e2, mm2, e3, e4⟩ => ⟨e2, mm2, e3, by rw [e1, e4]; rfl⟩)
              fun d m ⟨e2, mm2, e3, e4⟩ => by
                subst e2 e4
                exact pdlr_cons (pdr_imp (R' := fun d m => d = .int (cst flat many (hlf Es i 1)) ∧ ∃ mm3, coPost flat many E0 (hlf Es i 1) mm2 mm3 ∧ m = [some (q, .dic (mmK mm3)), some (wq, .lst ((waysN flat many Es i).map D.int))]) (pdr_cC (⟨q, flat, many, E0, hlf Es i 1, mm2, r, hlf_sub sub i 1, by omega, e3.1⟩ : CoA n') il hr F.glo_cost_of (pdl_cons (pd_var 7) (pdl_cons (pd_var 1) (pdl_cons (pd_var 2) (pdl_1 (pd_var 3))))) rfl (Fram.one 0)) fun d m ⟨m', e1, e2, mm3, e5, e4⟩ => ⟨e2, mm3, e5, by rw [e1, e4]; rfl⟩)
                  fun d m ⟨e2, mm3, e5, e4⟩ => by
                    subst e2 e4
                    exact pdlr_nil ⟨rfl, mm3, ⟨e5.1, fun k h => e5.2.1 k (e3.2.1 k h), e5.2.1 _ e3.2.2, e5.2.2⟩, rfl⟩) fun ds m ⟨e, _⟩ => by rw [e]; exact Nat.le_of_ble_eq_true rfl) nd fun d m ⟨ds, e0, e1, mm3, ⟨o1, o2, o3, o4⟩, e2⟩ => ?_
          subst e0 e1 e2
          refine pb_expr (pd_append (M2 := [some (q, .dic (mmK mm3)), some (wq, .lst ((waysN flat many Es i).map D.int))]) 1 (pd_var 4) (d := .int (1 + comb flat (cst flat many (hlf Es i 0)) (cst flat many (hlf Es i 1)))) ?_ ⟨_, rfl⟩ rfl ?_)
            (pb_nil ⟨mm3, _, _, _, _, rfl, by rw [waysN_yes hsp, List.map_append]; rfl, o1, fun k h => o2 k (mono1 k h), fun p hp h => ?_⟩)
          · refine pd_add pd_int (pd_cast (pd_if (k := flat) (pdt_val (pd_var 2)) (fun _ => ?_) fun _ => pd_sumT (ns := [cst flat many (hlf Es i 0), cst flat many (hlf Es i 1)]) F.free_sum (pd_var 8)) (comb_if _ _ _))
            exact pd_maxT (un_of hr1 (by decide)) F.free_max (pd_var 8)
          · rw [List.length_map]
            have := waysN_len flat many Es i
            omega
          · by_cases e : p = i
            · subst e; exact ⟨o3, o4⟩
            · obtain ⟨c1, c2⟩ := cl1 p (by omega) h
              exact ⟨o2 _ c1, o2 _ c2⟩
        · by_cases e : p = i
          · subst e; rw [hsp] at h; cases h
          · exact cl1 p (by omega) h
      · have el : (rngD 0 ((many : Nat) : Int).toNat).length = many := by rw [rngD_length]; rfl
        rw [el] at h
        obtain ⟨mm1, t5, t6, t7, t8, rfl, rfl, ok1, mono1, cl1⟩ := h
        have hmin : cst flat many Es = lmin (waysN flat many Es many) := cst_ways hsm
        obtain ⟨mm2, o1, o2⟩ := ok1.put' (E := Es) (c := lmin (waysN flat many Es many)) sub hmin.symm fun _ => cl1
        refine pb_dput (kvs := mmK mm1) (dk := keyD Es) (dv := .int (lmin (waysN flat many Es many))) 0 dk_t (un_of hr1 (by decide)) (pd_minL (LV.own 1) (ways_pos g hsm) F.free_min (pd_var 4)) (pd_var 3) (pd_cC (⟨Es, hs, by omega⟩ : TkA) (tk_ok F) hr1 F.glo_table_key (pdl_1 (pd_var 0)) rfl) rfl (tKey_mm _) (tKey_key _) (ok1.len r.h) (pb_drop [some (q, .dic (dput (mmK mm1) (keyD Es) (.int (lmin (waysN flat many Es many)))))] [some (wq, .lst ((waysN flat many Es many).map D.int))] (List.Perm.refl _) (pb_nil ⟨rfl, rfl, mm2, ⟨o1.1, fun k h => o1.2.1 k (mono1 k h), o1.2.2⟩, by rw [o2]⟩))
theorem co_ok (F : Fx P w K mg base) (n : Nat) : Cal P w K mg base (n + 2) (He.fAd K ("cost_of", none)) ["table", "many", "flat", "found"] (spC w T (fun x : CoA n => [tabD x.E, .int (x.many : Nat), .bl x.flat, .ref x.q]) (fun x => [some (x.q, .dic (mmK x.mm))]) (fun x d m => d = .int (cst x.flat x.many x.E) ∧ ∃ mm', coPost x.flat x.many x.E0 x.E x.mm mm' ∧ m = [some (x.q, .dic (mmK mm'))])) := by
  induction n with
  | zero => exact co_st F 0 fun m h => by cases h
  | succ n ih => exact co_st F (n + 1) fun m h => by cases h; exact ih
end
end H66

set_option Elab.async false
set_option linter.all false
set_option maxRecDepth 100000
set_option maxHeartbeats 4000000
/-! grown, best. -/
namespace H66
open PySem PySem.Spec PyProof.Rows L2 LW BO
theorem sc_gr : FnScope ["table", "many", "flat", "found", "answers", "place", "low", "high", "sides", "take"] ["table", "many", "flat", "found"] (defScope s_grown) := ⟨rfl, rfl, rfl, by decide +kernel, rfl, by decide +kernel, by decide +kernel⟩
theorem sc_be : FnScope ["examples", "many", "flat", "found", "table"] ["examples", "many", "flat"] (defScope s_best) := ⟨rfl, rfl, rfl, by decide +kernel, rfl, by decide +kernel, by decide +kernel⟩
section
variable {P : Program} {w : World} {K : PySem.W.Frag} {mg : Str → Option Value} {base : Heap} {T : List Addr}
theorem gr_st (F : Fx P w K mg base) (n : Nat) (ih : ∀ m, n = m + 1 → Cal P w K mg base (m + 2) (He.fAd K ("grown", none)) ["table", "many", "flat", "found"] (spC w T (fun x : GrA m => [tabD x.E, .int (x.many : Nat), .bl x.flat, .ref x.q]) (fun x => [some (x.q, .dic (mmK x.mm))]) (fun x d m => d = trD (grw x.flat x.many x.E) ∧ m = [some (x.q, .dic (mmK x.mm))]))) :
    Cal P w K mg base (n + 2) (He.fAd K ("grown", none)) ["table", "many", "flat", "found"] (spC w T (fun x : GrA n => [tabD x.E, .int (x.many : Nat), .bl x.flat, .ref x.q]) (fun x => [some (x.q, .dic (mmK x.mm))]) (fun x d m => d = trD (grw x.flat x.many x.E) ∧ m = [some (x.q, .dic (mmK x.mm))])) := by
  obtain ⟨fd, Fc, hb⟩ := F.fn_grown
  refine ⟨⟨fd, LW.fn_ok Fc sc_gr (fun x => [some (tabD x.E), some (.int (x.many : Nat)), some (.bl x.flat), some (.ref x.q), none, none, none, none, none, none]) (fun x A outer s H E hr => ?_), hb⟩, Fc.kp⟩
  have nd := sc_gr.nd
  obtain ⟨⟨q, flat, many, E0, Es, mm, r, sub, len, ok⟩, hE⟩ := x
  have hz := sizeLine_eq
  have hle := r.len sub
  have hs := r.srt sub
  have g := r.g.sub sub
  have hm := r.m
  have hr1 : Room 1 (A.deeper (envOfC "grown" (defScope s_grown) s.heap.objs.size (He.fAd K ("grown", none)) (.ref (He.codeOf K ("grown", none))))) := hr.mono (by omega)
  obtain ⟨⟨Es', c⟩, hp, e⟩ := List.mem_map.mp hE
  have e : Es' = Es := e
  subst e
  have clo := ok.clo _ hp
  refine pb_set (d := .dic ((ddp [] (Es'.map (·.2))).map (oneD D.bl))) (M1 := [some (q, .dic (mmK mm))]) 4 (pd_cast (pd_dictB (ps := Es'.map fun e => (e.2, .int 1)) (da := .lst (Es'.map fun e => .tup [.bl e.2, .int 1])) ?_ ?_ F.free_dict
      (pd_cast (pd_lc (own := [("take", 9)]) (xs := Es') (kp := fun _ => true) (enc := fun e => .bl e.2) (us := fun e => [.bl e.2]) (ed := fun e => .tup [.bl e.2, .int 1]) (pdi_values (kvs := Es'.map exK) (pd_var 0)) nd (blkOk_by (by kernel_rfl)) (fun s H C cl fp => pg_name nd rfl (Or.inl rfl)) (tgt_name 9) (by decide) trivial ⟨by rw [List.map_map]; rfl, fun _ => rfl⟩
        (by omega) (fun e he s H C cl fp => pdts_nil) fun e he _ s H C cl fp => pd_tup (pdl_cons (pd_var 9) (pdl_1 pd_int))) (by rw [filter_yes]))) (by rw [takes_dict])) nd ?_
  · rw [List.map_map, List.map_map]
    exact LV.dat
  · rw [List.length_map]
    omega
  have hgr := grw_eq flat many Es'
  refine pb_ifret (k := sameT Es') (pdt_cast (pdt_lt (i := ((ddp [] (Es'.map (·.2))).length : Int)) (pd_cast (pd_lenD (kvs := (ddp [] (Es'.map (·.2))).map (oneD D.bl)) DV.dat F.free_len (pd_var 4)) (by rw [List.length_map])) pd_int) ?_) (fun hsm => ?_) fun hsm => ?_
  · unfold sameT
    rw [decide_eq_decide]
    omega
  · rw [if_pos hsm] at hgr
    refine pb_ret (d := .bl (firstT Es')) (pd_ifc (k := !decide (((ddp [] (Es'.map (·.2))).map (oneD D.bl)).length = 0)) (pdt_ne0 (un_of (n := 0) hr1 (by decide)) DV.dat (pd_var 4)) (fun hk => ?_) fun hk => ?_) ⟨?_, rfl⟩
    · exact pd_ixL (LV.dat) (first_ix (by simpa using hk)) (pd_listD (kvs := (ddp [] (Es'.map (·.2))).map (oneD D.bl)) DV.dat F.free_list (pd_var 4)) pd_int
    · rw [first_no (by simpa using hk)]
      exact pd_bl
    · show _ = trD (grw flat many Es')
      rw [hgr]
      rfl
  · rw [if_neg (by rw [hsm]; exact Bool.false_ne_true)] at hgr
    refine pb_for (pdi_range1 (j := (many : Nat)) F.free_range (pd_var 1) (by omega) (by omega)) (pg_name (i := 5) nd rfl (Or.inl rfl)) (tgt_name 5)
      (fun i ρ m => ∃ t5 t6 t7 t8, ρ = [some (tabD Es'), some (.int (many : Nat)), some (.bl flat), some (.ref q), some (.dic ((ddp [] (Es'.map (·.2))).map (oneD D.bl))), t5, t6, t7, t8, none] ∧ m = [some (q, .dic (mmK mm))] ∧ ∀ p, p < i → splits Es' p = true → ¬ 1 + comb flat (cst flat many (hlf Es' p 0)) (cst flat many (hlf Es' p 1)) = cst flat many Es')
      ⟨none, none, none, none, rfl, rfl, fun p h => absurd h (Nat.not_lt_zero _)⟩ (fun _ _ _ _ _ => trivial) (fun i d h => ⟨_, rfl⟩) (fun i d us ρ' m h1 h2 h3 => ?_) fun ρ' m h => ?_
    · obtain ⟨hi, e⟩ := rngD_at h1 h2
      subst e
      obtain ⟨t5, t6, t7, t8, rfl, rfl, cl1⟩ := h3
      have hi' : i < many := hi
      refine pb_asgG (pd_cC (⟨Es', many, i, g, hi', by omega⟩ : HvA) (hv_ok F) hr1 F.glo_halves (pdl_cons (pd_var 0) (pdl_1 (pd_var 5))) rfl) (pg_tup rfl (pgs_cons (pg_name nd (i := 6) rfl (Or.inl rfl)) (pgs_cons (pg_name nd (i := 7) rfl (Or.inl rfl)) pgs_nil))) (tgt_tup [6, 7]) rfl ?_
      refine pb_one (pb1_if (k := splits Es' i) (pdt_cast (pdt_and (pdt_ne0 (kvs := (hlf Es' i 0).map exK) (un_of (n := 0) hr1 (by decide)) DV.dat (pd_var 6)) fun _ => pdt_ne0 (kvs := (hlf Es' i 1).map exK) (un_of (n := 0) hr1 (by decide)) DV.dat (pd_var 7)) (splits_eq Es' i)) (fun hsp => ?_) fun hsp => pb_nil ⟨_, _, _, _, rfl, rfl, fun p hp h => ?_⟩)
      · obtain ⟨l0, l1⟩ := hlf_lt hsp
        obtain ⟨n', rfl⟩ : ∃ m, n = m + 1 := ⟨n - 1, by omega⟩
        have il := ih n' rfl
        obtain ⟨k0, k1⟩ := clo hsm i hi' hsp
        refine pb_set (d := .tup [.int (cst flat many (hlf Es' i 0)), .int (cst flat many (hlf Es' i 1))]) 8 (pd_tup (pdl_cons (pd_dsub (kvs := mmK mm) (dk := keyD (hlf Es' i 0)) dk_t (un_of hr1 (by decide)) (DV.own 0) (tKey_mm _) (tKey_key _) (ok.get k0) (pd_var 3) (pd_cC (⟨hlf Es' i 0, hs.hlf i 0, by omega⟩ : TkA) (tk_ok F) hr1 F.glo_table_key (pdl_1 (pd_var 6)) rfl))
          (pdl_1 (pd_dsub (kvs := mmK mm) (dk := keyD (hlf Es' i 1)) dk_t (un_of hr1 (by decide)) (DV.own 0) (tKey_mm _) (tKey_key _) (ok.get k1) (pd_var 3) (pd_cC (⟨hlf Es' i 1, hs.hlf i 1, by omega⟩ : TkA) (tk_ok F) hr1 F.glo_table_key (pdl_1 (pd_var 7)) rfl))))) nd ?_
        refine pb_one (pb1_if (k := decide (1 + comb flat (cst flat many (hlf Es' i 0)) (cst flat many (hlf Es' i 1)) = cst flat many Es')) (pdt_eqI (M1 := [some (q, .dic (mmK mm))]) ?_ (pd_dsub (kvs := mmK mm) (dk := keyD Es') dk_t (un_of hr1 (by decide)) (DV.own 0) (tKey_mm _) (tKey_key _) (ok.get hE) (pd_var 3) (pd_cC (⟨Es', hs, by omega⟩ : TkA) (tk_ok F) hr1 F.glo_table_key (pdl_1 (pd_var 0)) rfl))) (fun hk => ?_) fun hk => pb_nil ⟨_, _, _, _, rfl, rfl, fun p hp h => ?_⟩)
        · refine pd_add pd_int (pd_cast (pd_if (k := flat) (pdt_val (pd_var 2)) (fun _ => ?_) fun _ => pd_sumT (ns := [cst flat many (hlf Es' i 0), cst flat many (hlf Es' i 1)]) F.free_sum (pd_var 8)) (comb_if _ _ _))
          exact pd_maxT (un_of hr1 (by decide)) F.free_max (pd_var 8)
        · have hpk := pick_at hi' hsp (of_decide_eq_true hk) cl1
          rw [hpk] at hgr
          refine pb_ret (pd_tup (pdl_cons (pd_var 5) (pdl_cons
            (pd_ofR (d := trD (grw flat many (hlf Es' i 0))) (pdr_cC (⟨⟨q, flat, many, E0, hlf Es' i 0, mm, r, hlf_sub sub i 0, by omega, ok⟩, k0⟩ : GrA n') il hr F.glo_grown (pdl_cons (pd_var 6) (pdl_cons (pd_var 1) (pdl_cons (pd_var 2) (pdl_1 (pd_var 3))))) rfl Fram.all) fun d m ⟨m', e1, e2, e3⟩ => ⟨e2, e1.trans e3⟩)
            (pdl_1 (pd_ofR (d := trD (grw flat many (hlf Es' i 1))) (pdr_cC (⟨⟨q, flat, many, E0, hlf Es' i 1, mm, r, hlf_sub sub i 1, by omega, ok⟩, k1⟩ : GrA n') il hr F.glo_grown (pdl_cons (pd_var 7) (pdl_cons (pd_var 1) (pdl_cons (pd_var 2) (pdl_1 (pd_var 3))))) rfl Fram.all) fun d m ⟨m', e1, e2, e3⟩ => ⟨e2, e1.trans e3⟩))))) ⟨?_, rfl⟩
          show _ = trD (grw flat many Es')
          rw [hgr]
          rfl
        · by_cases e : p = i
          · subst e; exact of_decide_eq_false hk
          · exact cl1 p (by omega) h
      · by_cases e : p = i
        · subst e; rw [hsp] at h; cases h
        · exact cl1 p (by omega) h
    · have el : (rngD 0 ((many : Nat) : Int).toNat).length = many := by rw [rngD_length]; rfl
      rw [el] at h
      obtain ⟨t5, t6, t7, t8, rfl, rfl, cl1⟩ := h
      rw [pick_none cl1] at hgr
      refine pb_ret pd_bl ⟨?_, rfl⟩
      show _ = trD (grw flat many Es')
      rw [hgr]
      rfl
theorem gr_ok (F : Fx P w K mg base) (n : Nat) : Cal P w K mg base (n + 2) (He.fAd K ("grown", none)) ["table", "many", "flat", "found"] (spC w T (fun x : GrA n => [tabD x.E, .int (x.many : Nat), .bl x.flat, .ref x.q]) (fun x => [some (x.q, .dic (mmK x.mm))]) (fun x d m => d = trD (grw x.flat x.many x.E) ∧ m = [some (x.q, .dic (mmK x.mm))])) := by
  induction n with
  | zero => exact gr_st F 0 fun m h => by cases h
  | succ n ih => exact gr_st F (n + 1) fun m h => by cases h; exact ih
theorem be_ok (F : Fx P w K mg base) : CalD P w K mg base 19 (He.fAd K ("best", none)) ["examples", "many", "flat"] (spP w (Tb K) (fun x : BeA => [.lst (x.E.map exD), .int (x.many : Nat), .bl x.flat]) (fun x => trD (grw x.flat x.many x.E))) [.bl false] := by
  obtain ⟨fd, FD, Fc⟩ := F.fn_best
  have b3 := FunD.binds1 (ps := ["examples", "many", "flat"]) FD 3 1 (by simp [d_best, He.DefD.dvs]) (by simp [d_best, He.DefD.dvs]) fun T kV doc pm an cdv ct us its h1 h2 => match us, its, h1, h2 with | [_, _, _], [_], _, _ => ⟨_, rfl, rfl⟩
  have b2 := FunD.binds1 (ps := ["examples", "many", "flat"]) FD 2 0 (by simp [d_best, He.DefD.dvs]) (by simp [d_best, He.DefD.dvs]) fun T kV doc pm an cdv ct us its h1 h2 => match us, its, h1, h2 with | [_, _], [_], _, _ => ⟨_, rfl, rfl⟩
  obtain ⟨d3, v3, b3⟩ := b3
  have e3 : d3 = [] := by cases v3; rfl
  subst e3
  obtain ⟨d2, v2, b2⟩ := b2
  refine ⟨⟨fd, LW.fn_ok Fc sc_be (fun x => [some (.lst (x.E.map exD)), some (.int (x.many : Nat)), some (.bl x.flat), none, none]) (fun x A outer s H E hr => ?_), b3, d2, v2, b2⟩, Fc.kp⟩
  have nd := sc_be.nd
  obtain ⟨flat, many, Es, r⟩ := x
  have hm := r.m
  have hl := r.h
  refine pb_setR 3 pdr_dnew nd fun d m ⟨q, e1, e2⟩ => ?_
  subst e1 e2
  refine pb_set 4 (pd_cC (⟨many, Es, r.g, by omega, hm⟩ : CeA) (ce_ok F) (hr.mono (by decide)) F.glo_check_examples (pdl_cons (pd_var 0) (pdl_1 (pd_var 1))) rfl) nd ?_
  refine pb_seq (Nx1 := fun ρ' m => ρ' = [some (.lst (Es.map exD)), some (.int (many : Nat)), some (.bl flat), some (.ref q), some (tabD Es)] ∧ ∃ mm', coPost flat many Es Es [] mm' ∧ m = [some (q, .dic (mmK mm'))])
    (pb1_expr (pdr_cC (⟨q, flat, many, Es, Es, [], r, List.Sublist.refl _, hl, MemOk.nil _ _ _⟩ : CoA 16) (co_ok F 16) hr F.glo_cost_of (pdl_cons (pd_var 4) (pdl_cons (pd_var 1) (pdl_cons (pd_var 2) (pdl_1 (pd_var 3))))) rfl Fram.all) fun d m ⟨m', e1, e2, mm', e3, e4⟩ => ⟨rfl, mm', e3, by rw [e1, e4]⟩) fun ρ' m ⟨e1, mm', e2, e3⟩ => ?_
  subst e1 e3
  exact pb_ret (pd_drop [] [some (q, .dic (mmK mm'))] (List.Perm.refl _) (pd_ofR (d := trD (grw flat many Es)) (M1 := [some (q, .dic (mmK mm'))]) (pdr_cC (⟨⟨q, flat, many, Es, Es, mm', r, List.Sublist.refl _, hl, e2.1⟩, e2.2.2⟩ : GrA 16) (gr_ok F 16) hr F.glo_grown (pdl_cons (pd_var 4) (pdl_cons (pd_var 1) (pdl_cons (pd_var 2) (pdl_1 (pd_var 3))))) rfl Fram.all) fun d m ⟨m', e1, e2, e3⟩ => ⟨e2, e1.trans e3⟩)) ⟨rfl, rfl⟩
end
end H66

set_option Elab.async false
set_option linter.all false
set_option maxRecDepth 100000
set_option maxHeartbeats 4000000
/-! the law's own costs. -/
namespace H66
open PySem PySem.Spec PyProof.Rows L2 LW BO
abbrev leN : List Str := ["examples", "places", "flat", "known", "key", "found", "place", "halves_v", "both", "point", "take", "bit", "row", "half"]
theorem sc_le : FnScope leN ["examples", "places", "flat", "known"] (defScope s_law_least) := ⟨rfl, rfl, rfl, by decide +kernel, rfl, by decide +kernel, by decide +kernel⟩
section
variable {P : Program} {w : World} {K : PySem.W.Frag} {mg : Str → Option Value} {base : Heap} {T : List Addr}
abbrev spLe (w : World) (T : List Addr) (n : Nat) : Sp := spC w T (fun x : CoA n => [.lst (x.E.map exD), .int (x.many : Nat), .bl x.flat, .ref x.q]) (fun x => [some (x.q, .dic (mmK x.mm))]) (fun x d m => d = .int (cst x.flat x.many x.E) ∧ ∃ mm', coPost x.flat x.many x.E0 x.E x.mm mm' ∧ m = [some (x.q, .dic (mmK mm'))])
theorem le_st (F : Fx P w K mg base) (n : Nat) (ih : ∀ m, n = m + 1 → Cal P w K mg base (m + 2) (He.fAd K ("_law_least", none)) ["examples", "places", "flat", "known"] (spLe w T m)) :
    Cal P w K mg base (n + 2) (He.fAd K ("_law_least", none)) ["examples", "places", "flat", "known"] (spLe w T n) := by
  obtain ⟨fd, Fc, hb⟩ := F.fn_law_least
  refine ⟨⟨fd, LW.fn_ok Fc sc_le (fun x => [some (.lst (x.E.map exD)), some (.int (x.many : Nat)), some (.bl x.flat), some (.ref x.q), none, none, none, none, none, none, none, none, none, none]) (fun x A outer s H E hr => ?_), hb⟩, Fc.kp⟩
  have nd := sc_le.nd
  obtain ⟨q, flat, many, E0, Es, mm, r, sub, len, ok⟩ := x
  have hz := sizeLine_eq
  have hle := r.len sub
  have hs := r.srt sub
  have g := r.g.sub sub
  have hm := r.m
  have hr1 : Room 1 (A.deeper (envOfC "_law_least" (defScope s_law_least) s.heap.objs.size (He.fAd K ("_law_least", none)) (.ref (He.codeOf K ("_law_least", none))))) := hr.mono (by omega)
  refine pb_set 4 (pd_tupL LV.dat F.free_tuple (pd_var 0)) nd ?_
  have fin : ∀ (mm' : Mm) (ρ : List (Option D)), coPost flat many E0 Es mm mm' → ρ[4]? = some (some (keyD Es)) → ρ[3]? = some (some (.ref q)) →
      PB (cxOf CX0 P w K mg base leN "_law_least" (defScope s_law_least) (He.fAd K ("_law_least", none)) (.ref (He.codeOf K ("_law_least", none))) A outer s H E).nox T ρ [some (q, .dic (mmK mm'))] ((defBody s_law_least).drop 2)
        (fun _ m => D.non = .int (cst flat many Es) ∧ ∃ mm', coPost flat many E0 Es mm mm' ∧ m = [some (q, .dic (mmK mm'))]) (fun d m => d = .int (cst flat many Es) ∧ ∃ mm', coPost flat many E0 Es mm mm' ∧ m = [some (q, .dic (mmK mm'))]) := fun mm' ρ hp h4 h3 =>
    pb_ret (pd_dsub (kvs := mmK mm') (dk := keyD Es) dk_t (un_of hr1 (by decide)) (DV.own 0) (tKey_mm _) (tKey_key _) (hp.1.get hp.2.2) (pd_var 3 h3) (pd_var 4 h4)) ⟨rfl, mm', hp, rfl⟩
  by_cases hin : Es ∈ mm.map (·.1)
  · refine pb_ifno (pdt_cast (pdt_dnin (kvs := mmK mm) (da := keyD Es) dk_t (un_of hr1 (by decide)) (DV.own 0) (tKey_mm _) (tKey_key _) (pd_var 4) (pd_var 3)) (by rw [ok.get hin]; rfl)) ?_
    exact fin mm _ ⟨ok, fun _ h => h, hin⟩ rfl rfl
  · refine pb_if (k := true) (Nx1 := fun ρ' m => ρ'[4]? = some (some (keyD Es)) ∧ ρ'[3]? = some (some (.ref q)) ∧ ∃ mm', coPost flat many E0 Es mm mm' ∧ m = [some (q, .dic (mmK mm'))])
      (pdt_cast (pdt_dnin (kvs := mmK mm) (da := keyD Es) dk_t (un_of hr1 (by decide)) (DV.own 0) (tKey_mm _) (tKey_key _) (pd_var 4) (pd_var 3)) (by rw [dget_mm_none hin]; rfl)) (fun _ => ?_) (fun h => by cases h) fun ρ' m ⟨h1, h2, mm', h3, h4⟩ => by subst h4; exact fin mm' ρ' h3 h1 h2
    refine pb_setR 5 (pdr_if (k := !sameT Es) (M1 := [some (q, .dic (mmK mm))]) (R := fun d m => ∃ wq, d = .ref wq ∧ m = [some (q, .dic (mmK mm)), some (wq, .lst (if sameT Es = true then [.int 0] else []))]) (pdt_cast (pdt_gt (i := ((ddp [] (Es.map (·.2))).length : Int)) (j := 1) (pd_cast (pd_lenD (kvs := (ddp [] (Es.map (·.2))).map (oneD D.bl)) DV.dat F.free_len (pd_cast (pd_dictB (ps := Es.map fun e => (e.2, .int 1)) (da := .lst (Es.map fun e => .tup [.bl e.2, .int 1])) ?_ ?_ F.free_dict
      (pd_cast (pd_lc (own := [("point", 9), ("take", 10)]) (xs := Es) (kp := fun _ => true) (enc := exD) (us := fun e => [ptD e.1, .bl e.2]) (ed := fun e => .tup [.bl e.2, .int 1]) (pdi_list (ds := Es.map exD) LV.dat (pd_var 0)) nd (blkOk_by (by kernel_rfl)) (fun s H C cl fp => pg_tup rfl (pgs_cons (pg_name nd (i := 9) rfl (Or.inl rfl)) (pgs_cons (pg_name nd (i := 10) rfl (Or.inl rfl)) pgs_nil))) (tgt_tup [9, 10]) (by decide) LV.dat ⟨rfl, fun _ => rfl⟩
        (by omega) (fun e he s H C cl fp => pdts_nil) fun e he _ s H C cl fp => pd_tup (pdl_cons (pd_var 10) (pdl_1 pd_int))) (by rw [filter_yes]))) (by rw [takes_dict]))) (by rw [List.length_map])) pd_int) ?_)
      (fun hk => pdr_imp (pdr_lst pdl_nil) fun d m ⟨wq, e1, e2⟩ => ⟨wq, e1, by rw [e2, if_neg (by intro h; rw [h] at hk; cases hk)]; rfl⟩)
      (fun hk => pdr_imp (pdr_lst (pdl_1 pd_int)) fun d m ⟨wq, e1, e2⟩ => ⟨wq, e1, by rw [e2, if_pos (by simpa using hk)]; rfl⟩)) nd fun d m ⟨wq, e1, e2⟩ => ?_
    · rw [List.map_map, List.map_map]
      exact LV.dat
    · rw [List.length_map]
      omega
    · rw [← same_one]
      rw [decide_eq_decide]
      omega
    subst e1 e2
    have hj : ∃ j : Int, j = (if sameT Es = true then 0 else (many : Int)) := ⟨_, rfl⟩
    refine pb_for (pdi_range1 (j := if sameT Es = true then 0 else ((many : Nat) : Int)) F.free_range (pd_cast (pd_if (k := !sameT Es) (d1 := .int (many : Nat)) (d2 := .int 0) (M1 := [some (q, .dic (mmK mm)), some (wq, .lst (if sameT Es = true then [.int 0] else []))]) (pdt_cast (pdt_eqD (x := .list (if sameT Es = true then [.int 0] else [])) (y := .list []) (da := .ref wq) (db := .lst []) (k := !sameT Es) (un_of hr1 (by decide)) (PV.own 1 rfl ?_) (PV.dat rfl) ?_ ?_ ?_ (pd_var 5) (pd_lst pdl_nil)) rfl) (fun _ => pd_var 1) fun _ => pd_int) ?_) ?_ ?_) (pg_name (i := 6) nd rfl (Or.inr rfl)) (tgt_name 6)
        (fun i ρ m => ∃ mm' t6 t7 t8, ρ = [some (.lst (Es.map exD)), some (.int (many : Nat)), some (.bl flat), some (.ref q), some (keyD Es), some (.ref wq), t6, t7, t8, none, none, none, none, none] ∧ m = [some (q, .dic (mmK mm')), some (wq, .lst (if sameT Es = true then [.int 0] else (waysN flat many Es i).map D.int))] ∧ MemOk flat many E0 mm' ∧ (∀ k ∈ mm.map (·.1), k ∈ mm'.map (·.1)) ∧ (sameT Es = false → ∀ p, p < i → splits Es p = true → hlf Es p 0 ∈ mm'.map (·.1) ∧ hlf Es p 1 ∈ mm'.map (·.1)))
        ⟨mm, none, none, none, rfl, ?_, ok, fun _ h => h, fun _ p h => absurd h (Nat.not_lt_zero _)⟩ (fun _ _ _ _ _ => trivial) (fun i d h => ⟨_, rfl⟩) (fun i d us ρ' m h1 h2 h3 => ?_) fun ρ' m h => ?_
    · split <;> rfl
    · split <;> rfl
    · rfl
    · cases sameT Es <;> rfl
    · cases sameT Es <;> rfl
    · split <;> omega
    · split <;> omega
    · rfl
    · by_cases hsm' : sameT Es = true
      · rw [if_pos hsm'] at h1
        cases h1
      have hsm : sameT Es = false := by simpa using hsm'
      simp only [hsm, Bool.false_eq_true, if_false] at h1 h3 ⊢
      obtain ⟨hi, e⟩ := rngD_at h1 h2
      subst e
      obtain ⟨mm1, t6, t7, t8, rfl, rfl, ok1, mono1, cl1⟩ := h3
      have hi' : i < many := hi
      have cl1 := cl1 trivial
      refine pb_setLc 7 (own := [("bit", 11)]) (xs := [0, 1]) (kp := fun _ => true) (enc := D.int) (us := fun b => [.int b]) (ed := fun b => .lst ((hlf Es i b).map exD)) (pdi_range1 (j := 2) F.free_range pd_int (by decide) (by decide)) nd (blkOk_by (by kernel_rfl)) (fun s H C cl fp => pg_name nd rfl (Or.inr rfl)) (tgt_name 11) (by decide) trivial ⟨rfl, fun _ => rfl⟩ (by decide)
        (fun b hb s H C cl fp => pdts_nil) (fun b hb _ s H C cl fp => pd_lc (own := [("row", 12)]) (xs := Es) (kp := fun e => decide (e.1.getD i 0 = b)) (enc := exD) (us := fun e => [exD e]) (ed := exD) (pdi_list (ds := Es.map exD) LV.dat (pd_var 0)) nd (blkOk_by (by kernel_rfl)) (fun s H C cl fp => pg_name nd rfl (Or.inl rfl)) (tgt_name 12) (by decide) LV.dat ⟨rfl, fun _ => rfl⟩ (by omega)
          (fun e he s H C cl fp => pdts_one (pdt_eqI (pd_ixT (ds := e.1.map D.int) (i := (i : Nat)) (atI_pt (by rw [g.len e he]; exact hi')) (pd_ixT (ds := [ptD e.1, .bl e.2]) rfl (pd_var 12) pd_int) (pd_var 6)) (pd_var 11))) fun e he _ s H C cl fp => pd_var 12) ?_
      refine pb_one (pb1_if (k := splits Es i) (pdt_cast (pdt_and (pdt_neE (x := hlf Es i 0) (y := []) encP_ex.lst (un_of hr1 (by decide)) (pd_ixL LV.dat rfl (pd_var 7) pd_int) (pd_lst pdl_nil)) fun _ => pdt_neE (x := hlf Es i 1) (y := []) encP_ex.lst (un_of hr1 (by decide)) (pd_ixL LV.dat rfl (pd_var 7) pd_int) (pd_lst pdl_nil)) (splits_nil Es i)) (fun hsp => ?_) fun hsp => pb_nil ⟨mm1, _, _, _, rfl, by rw [waysN_no hsp], ok1, mono1, fun _ p hp h => ?_⟩)
      · obtain ⟨l0, l1⟩ := hlf_lt hsp
        obtain ⟨n', rfl⟩ : ∃ m, n = m + 1 := ⟨n - 1, by omega⟩
        have il := ih n' rfl
        refine pb_setLcR 8 (own := [("half", 13)]) (ds := [.lst ((hlf Es i 0).map exD), .lst ((hlf Es i 1).map exD)]) (fun j acc m => ∃ mm2, acc = ([cst flat many (hlf Es i 0), cst flat many (hlf Es i 1)].take j).map D.int ∧ MemOk flat many E0 mm2 ∧ (∀ k ∈ mm1.map (·.1), k ∈ mm2.map (·.1)) ∧ (0 < j → hlf Es i 0 ∈ mm2.map (·.1)) ∧ (1 < j → hlf Es i 1 ∈ mm2.map (·.1)) ∧ m = [some (q, .dic (mmK mm2)), some (wq, .lst ((waysN flat many Es i).map D.int))])
          (pdi_list LV.dat (pd_var 7)) nd (blkOk_by (by kernel_rfl)) (fun s H C cl fp => pg_name nd rfl (Or.inl rfl)) (tgt_name 13) (by decide) ⟨mm1, rfl, ok1, fun _ h => h, fun h => absurd h (by decide), fun h => absurd h (by decide), rfl⟩ (fun _ _ _ _ => LV.dat) (fun j acc m ⟨mm2, e, _⟩ => ?_) (fun _ _ _ => ⟨_, rfl⟩) (fun j d us acc m h1 h2 h3 => ?_) fun acc m h => ?_
        · rw [e, List.length_map, List.length_take]
          exact Nat.le_trans (Nat.min_le_right _ _) (Nat.le_of_ble_eq_true rfl)
        · obtain ⟨mm2, rfl, ok2, mono2, k0, k1, rfl⟩ := h3
          cases h2
          match j, h1 with
          | 0, h1 =>
            cases h1
            exact fun s H C cl fp => pdr_imp (pdr_cC (⟨q, flat, many, E0, hlf Es i 0, mm2, r, hlf_sub sub i 0, by omega, ok2⟩ : CoA n') il hr F.glo_law_least (pdl_cons (pd_var 13) (pdl_cons (pd_var 1) (pdl_cons (pd_var 2) (pdl_1 (pd_var 3))))) rfl (Fram.one 0)) fun d m ⟨m', e1, e2, mm3, e3, e4⟩ => ⟨mm3, by rw [e2]; rfl, e3.1, fun k h => e3.2.1 k (mono2 k h), fun _ => e3.2.2, fun h => absurd h (by decide), by rw [e1, e4]; rfl⟩
          | 1, h1 =>
            cases h1
            exact fun s H C cl fp => pdr_imp (pdr_cC (⟨q, flat, many, E0, hlf Es i 1, mm2, r, hlf_sub sub i 1, by omega, ok2⟩ : CoA n') il hr F.glo_law_least (pdl_cons (pd_var 13) (pdl_cons (pd_var 1) (pdl_cons (pd_var 2) (pdl_1 (pd_var 3))))) rfl (Fram.one 0)) fun d m ⟨m', e1, e2, mm3, e3, e4⟩ => ⟨mm3, by rw [e2]; rfl, e3.1, fun k h => e3.2.1 k (mono2 k h), fun _ => e3.2.1 _ (k0 (by decide)), fun _ => e3.2.2, by rw [e1, e4]; rfl⟩
        · obtain ⟨mm2, e1, ok2, mono2, k0, k1, e2⟩ := h
          have e1 : acc = [.int (cst flat many (hlf Es i 0)), .int (cst flat many (hlf Es i 1))] := e1
          subst e1 e2
          refine pb_expr (pd_append (M2 := [some (q, .dic (mmK mm2)), some (wq, .lst ((waysN flat many Es i).map D.int))]) 1 (pd_var 5) (d := .int (1 + comb flat (cst flat many (hlf Es i 0)) (cst flat many (hlf Es i 1)))) ?_ ⟨_, rfl⟩ rfl ?_)
            (pb_nil ⟨mm2, _, _, _, rfl, by rw [waysN_yes hsp, List.map_append]; rfl, ok2, fun k h => mono2 k (mono1 k h), fun _ p hp h => ?_⟩)
          · exact pd_add pd_int (pd_cast (pd_if (k := flat) (pdt_val (pd_var 2)) (fun _ => pd_maxL (ns := [cst flat many (hlf Es i 0), cst flat many (hlf Es i 1)]) LV.dat (Nat.zero_lt_succ _) F.free_max (pd_var 8)) fun _ => pd_sumL (ns := [cst flat many (hlf Es i 0), cst flat many (hlf Es i 1)]) LV.dat F.free_sum (pd_var 8)) (comb_if2 _ _ _))
          · rw [List.length_map]
            have := waysN_len flat many Es i
            omega
          · by_cases e : p = i
            · subst e; exact ⟨k0 (Nat.le_of_ble_eq_true rfl), k1 (Nat.le_of_ble_eq_true rfl)⟩
            · obtain ⟨c1, c2⟩ := cl1 p (by omega) h
              exact ⟨mono2 _ c1, mono2 _ c2⟩
      · by_cases e : p = i
        · subst e; rw [hsp] at h; cases h
        · exact cl1 p (by omega) h
    · by_cases hsm' : sameT Es = true
      · simp only [hsm', if_true] at h
        obtain ⟨mm1, t6, t7, t8, rfl, rfl, ok1, mono1, cl1⟩ := h
        obtain ⟨mm2, o1, o2⟩ := ok1.put' (E := Es) (c := 0) sub (cst_same hsm').symm fun h => by rw [hsm'] at h; cases h
        refine pb_dput (kvs := mmK mm1) (dk := keyD Es) (dv := .int 0) 0 dk_t (un_of hr1 (by decide)) (pd_minL (ns := [0]) (LV.own 1) (Nat.zero_lt_succ _) F.free_min (pd_var 5)) (pd_var 3) (pd_var 4) rfl (tKey_mm _) (tKey_key _) (ok1.len r.h) (pb_drop [some (q, .dic (dput (mmK mm1) (keyD Es) (.int 0)))] [some (wq, .lst [.int 0])] (List.Perm.refl _) (pb_nil ⟨rfl, rfl, mm2, ⟨o1.1, fun k h => o1.2.1 k (mono1 k h), o1.2.2⟩, by rw [o2]⟩))
      · have hsm : sameT Es = false := by simpa using hsm'
        simp only [hsm, Bool.false_eq_true, if_false] at h
        have el : (rngD 0 ((many : Nat) : Int).toNat).length = many := by rw [rngD_length]; rfl
        rw [el] at h
        obtain ⟨mm1, t6, t7, t8, rfl, rfl, ok1, mono1, cl1⟩ := h
        have cl1 := cl1 trivial
        have hmin : cst flat many Es = lmin (waysN flat many Es many) := cst_ways hsm
        obtain ⟨mm2, o1, o2⟩ := ok1.put' (E := Es) (c := lmin (waysN flat many Es many)) sub hmin.symm fun _ => cl1
        refine pb_dput (kvs := mmK mm1) (dk := keyD Es) (dv := .int (lmin (waysN flat many Es many))) 0 dk_t (un_of hr1 (by decide)) (pd_minL (LV.own 1) (ways_pos g hsm) F.free_min (pd_var 5)) (pd_var 3) (pd_var 4) rfl (tKey_mm _) (tKey_key _) (ok1.len r.h) (pb_drop [some (q, .dic (dput (mmK mm1) (keyD Es) (.int (lmin (waysN flat many Es many)))))] [some (wq, .lst ((waysN flat many Es many).map D.int))] (List.Perm.refl _) (pb_nil ⟨rfl, rfl, mm2, ⟨o1.1, fun k h => o1.2.1 k (mono1 k h), o1.2.2⟩, by rw [o2]⟩))
theorem le_ok (F : Fx P w K mg base) (n : Nat) : Cal P w K mg base (n + 2) (He.fAd K ("_law_least", none)) ["examples", "places", "flat", "known"] (spLe w T n) := by
  induction n with
  | zero => exact le_st F 0 fun m h => by cases h
  | succ n ih => exact le_st F (n + 1) fun m h => by cases h; exact ih
end
end H66

set_option Elab.async false
set_option linter.all false
set_option maxRecDepth 100000
set_option maxHeartbeats 2000000
/-! CA: attributes as targets; dicts of numbers by typed keys; counts of examples. -/
namespace LW
open PySem PySem.Spec PyProof.Rows L2
def gFld (K : PySem.W.Frag) (to : TE) (f : Str) : TG := fun v σ H Q => to σ H fun x H1 => ∃ a C dx fs, x = .ref a ∧ H1 a = some (.ins C dx fs) ∧ Cls K C ∧ NoAttr K C f ∧ fs.length < 1000 ∧ Q σ (upd H1 a (.ins C dx (putF f v fs)))
theorem pg_fldT {X : Cx} {o : Expr} {f : Str} {pos : Pos} {to : TE} (ho : PE X o to) : PG X (.Attribute o f pos) (gFld X.K to f) := by
  refine ⟨fun pins s σ H v u Q I r h => ?_⟩
  refine PySem.W.kas_attr (thn (ho.run pins s σ H _ I h) fun ov s2 ⟨x, H2, I2, rx, a, C, dx, fs, ex, ea, c, n, l, q2⟩ => ?_)
  subst ex
  obtain rfl : ov = Value.ref a := rx
  exact setattr_ok I2 ea c n l r fun s3 I3 => ⟨σ, _, I3, q2⟩
def tSelf (w : World) (T : List Addr) (ρ : List (Option D)) (q : Addr) : TE := fun σ H Q => ∃ m, tE w T ρ m (.ref q) m σ H Q
theorem putD_len (f : Str) (d : D) : ∀ fs : List (Str × D), (putD f d fs).length ≤ fs.length + 1
  | [] => Nat.le_refl _
  | (g, x) :: r => by
    unfold putD
    by_cases h : g = f
    · rw [if_pos h]; exact Nat.le_succ _
    · rw [if_neg h]; exact Nat.succ_le_succ (putD_len f d r)
section
variable {w : World} {K : PySem.W.Frag} {T : List Addr} {ρ : List (Option D)} {G H : Hp} {M : Mem} {C q : Addr} {f : Str} {j : Nat} {fs : List (Str × D)} {v : V} {d : D} {σ : L2.St} {Q : L2.St → Hp → Prop}
theorem gfld_ok (hs : HS w T G H M) (sl : SL w G σ ρ) (rd : Dt w G v d) (hc : Cls K C) (hn : NoAttr K C f) (hj : M[j]? = some (some (q, .obj C fs))) (hl : fs.length < 1000)
    (k : ∀ G' H', Step G H M G' H' (M.set j (some (q, .obj C (putD f d fs)))) → HS w T G' H' (M.set j (some (q, .obj C (putD f d fs)))) → Q σ H') : gFld K (tSelf w T ρ q) f v σ H Q := by
  refine ⟨M, G, hs, sl, fun x G2 H2 st2 hs2 rx => ?_⟩
  cases rx
  obtain ⟨g0, dx, ws, e, rw'⟩ := hs2.mem q _ (mem_of hj)
  obtain ⟨a3, t3⟩ := hs2.put (ob' := .obj C (putD f d fs)) (o := .ins C dx (putF f v ws)) hj (fun _ z => by cases z) fun H' e' => ⟨dx, _, e', rw'.put (rd.up st2.up)⟩
  exact ⟨q, C, dx, ws, rfl, e, hc, hn, by rw [rw'.length]; exact hl, k _ _ (st2.trans t3) a3⟩
end
/-- o.f1, o.f2, o.f3 = a tuple of three -/
theorem pb_fld3 {X : Cx} {T : List Addr} {ρ : List (Option D)} {M : Mem} {o1 o2 o3 v : Expr} {pos p1 p2 p3 pt : Pos} {kt : Nat} {R : D → Mem → Prop} {rest : List Stmt} {Nx : List (Option D) → Mem → Prop} {Rt : D → Mem → Prop} {C q : Addr} {f1 f2 f3 : Str} {j : Nat}
    (hv : PDR X T ρ M v R) (ho1 : ∀ m, PD X T ρ m o1 (.ref q) m) (ho2 : ∀ m, PD X T ρ m o2 (.ref q) m) (ho3 : ∀ m, PD X T ρ m o3 (.ref q) m) (hc : Cls X.K C) (hn1 : NoAttr X.K C f1) (hn2 : NoAttr X.K C f2) (hn3 : NoAttr X.K C f3)
    (k : ∀ d m, R d m → ∃ d1 d2 d3 fs, d = .tup [d1, d2, d3] ∧ m[j]? = some (some (q, .obj C fs)) ∧ fs.length < 900 ∧ PB X T ρ (m.set j (some (q, .obj C (putD f3 d3 (putD f2 d2 (putD f1 d1 fs)))))) rest Nx Rt)
    (hcalm : X.calm = true := by rfl) (hlen : (assignEach [.Attribute o1 f1 p1, .Attribute o2 f2 p2, .Attribute o3 f3 p3] X.env).length = 3 := by rfl) (hst : (assignEach [.Attribute o1 f1 p1, .Attribute o2 f2 p2, .Attribute o3 f3 p3] X.env).findIdx? (·.1) = none := by rfl)
    (hs1 : (assignEach [.Attribute o1 f1 p1, .Attribute o2 f2 p2, .Attribute o3 f3 p3] X.env).map (·.2) = assign (.Attribute o1 f1 p1) X.env :: (assignEach [.Attribute o2 f2 p2, .Attribute o3 f3 p3] X.env).map (·.2) := by rfl)
    (hs2 : (assignEach [.Attribute o2 f2 p2, .Attribute o3 f3 p3] X.env).map (·.2) = assign (.Attribute o2 f2 p2) X.env :: (assignEach [.Attribute o3 f3 p3] X.env).map (·.2) := by rfl)
    (hs3 : (assignEach [.Attribute o3 f3 p3] X.env).map (·.2) = assign (.Attribute o3 f3 p3) X.env :: (assignEach [] X.env).map (·.2) := by rfl)
    (hs : swapsWithSole [.Tuple [.Attribute o1 f1 p1, .Attribute o2 f2 p2, .Attribute o3 f3 p3] kt pt] v pos.line X.env = pure false := by rfl) (hw : swappedStores [.Tuple [.Attribute o1 f1 p1, .Attribute o2 f2 p2, .Attribute o3 f3 p3] kt pt] v X.env = pure none := by rfl)
    (h1 : (assignEach [.Tuple [.Attribute o1 f1 p1, .Attribute o2 f2 p2, .Attribute o3 f3 p3] kt pt] X.env).map (·.2) = [assign (.Tuple [.Attribute o1 f1 p1, .Attribute o2 f2 p2, .Attribute o3 f3 p3] kt pt) X.env] := by rfl) :
    PB X T ρ M (.Assign [.Tuple [.Attribute o1 f1 p1, .Attribute o2 f2 p2, .Attribute o3 f3 p3] kt pt] v pos :: rest) Nx Rt := by
  have hg : PG X (.Tuple [.Attribute o1 f1 p1, .Attribute o2 f2 p2, .Attribute o3 f3 p3] kt pt) _ := pg_tup hcalm (pgs_cons (pg_fldT (f := f1) (to := tSelf X.w T ρ q) (PE.ex ho1)) (pgs_cons (pg_fldT (f := f2) (to := tSelf X.w T ρ q) (PE.ex ho2)) (pgs_cons (pg_fldT (f := f3) (to := tSelf X.w T ρ q) (PE.ex ho3)) pgs_nil hs3) hs2) hs1) hlen hst
  refine pb_seq (Nx1 := fun ρ' m' => ρ' = ρ ∧ ∃ m d1 d2 d3 fs, R (.tup [d1, d2, d3]) m ∧ m[j]? = some (some (q, .obj C fs)) ∧ m' = m.set j (some (q, .obj C (putD f3 d3 (putD f2 d2 (putD f1 d1 fs)))))) (PS.imp (ps_asg hv hg hs hw h1) fun Dd σ H ⟨G, hs', sl, k1, k2⟩ => ?_) fun ρ' m' ⟨e1, m, d1, d2, d3, fs, r, hj, e2⟩ => ?_
  · refine ⟨G, hs', sl, fun v G1 H1 d m r st1 hs1 rd => ?_⟩
    obtain ⟨d1, d2, d3, fs, rfl, hj, hl, _⟩ := k d m r
    obtain ⟨a, xs, rfl, ea, rx⟩ := rd.tupH hs1
    cases rx with
    | cons r1 rx => cases rx with
      | cons r2 rx => cases rx with
        | cons r3 rx => cases rx with
          | nil =>
            refine ⟨a, _, rfl, SqT.of ea, rfl, ?_⟩
            have hjl : j < m.length := (List.getElem?_eq_some_iff.mp hj).1
            refine ⟨_, _, rfl, gfld_ok hs1 (sl.up st1.up) r1 hc hn1 hj (by omega) fun G2 H2 st2 hs2 => ?_⟩
            have l1 := putD_len f1 d1 fs
            have j2 : (m.set j (some (q, Ob.obj C (putD f1 d1 fs))))[j]? = some (some (q, .obj C (putD f1 d1 fs))) := by simp [hjl]
            refine ⟨_, _, rfl, gfld_ok hs2 ((sl.up st1.up).up st2.up) (r2.up st2.up) hc hn2 j2 (by omega) fun G3 H3 st3 hs3 => ?_⟩
            rw [List.set_set] at st3 hs3
            have l2 := putD_len f2 d2 (putD f1 d1 fs)
            have j3 : (m.set j (some (q, Ob.obj C (putD f2 d2 (putD f1 d1 fs)))))[j]? = some (some (q, .obj C (putD f2 d2 (putD f1 d1 fs)))) := by simp [hjl]
            refine ⟨_, _, rfl, gfld_ok hs3 (((sl.up st1.up).up st2.up).up st3.up) ((r3.up st2.up).up st3.up) hc hn3 j3 (by omega) fun G4 H4 st4 hs4 => ?_⟩
            rw [List.set_set] at st4 hs4
            exact ⟨rfl, k1 σ G4 H4 ρ _ ⟨rfl, m, d1, d2, d3, fs, r, hj, rfl⟩ (((st1.trans st2).trans st3).trans st4) hs4 ((((sl.up st1.up).up st2.up).up st3.up).up st4.up)⟩
  · subst e1
    obtain ⟨d1', d2', d3', fs', e3, hj', _, kk⟩ := k _ m r
    injection e3 with e3
    injection e3 with e4 e3
    injection e3 with e5 e3
    injection e3 with e6 e3
    rw [hj] at hj'
    injection hj' with hj'
    injection hj' with hj'
    injection hj' with e7 e8
    injection e8 with e9 e10
    subst e4 e5 e6 e10 e2
    exact kk
theorem Fram.suffix (R Mf : Mem) : Fram (R ++ Mf) Mf (fun m => R ++ m) := ⟨R, List.perm_append_comm, fun m => List.perm_append_comm⟩
theorem Fram.prefix (R Mf : Mem) : Fram (Mf ++ R) Mf (fun m => m ++ R) := ⟨R, List.Perm.refl _, fun m => List.Perm.refl _⟩
/-- numbers as keys -/
theorem encK_nat : EncK 0 (fun n : Nat => D.int n) (fun n : Nat => NestedKey.num n) := ⟨fun _ => rfl, fun a b h => by injection h with h; exact Int.ofNat.inj h, fun _ => by simp [NestedKey.depth]⟩
/-! dicts of numbers by typed keys -/
section
variable {α : Type} [DecidableEq α] {n : Nat} {f : α → D} {k : α → NestedKey}
def tD (f : α → D) (xs : List (α × Int)) : List (D × D) := xs.map fun p => (f p.1, D.int p.2)
def tget : List (α × Int) → α → Option Int
  | [], _ => none
  | p :: r, a => if p.1 = a then some p.2 else tget r a
def tput (xs : List (α × Int)) (a : α) (v : Int) : List (α × Int) := if (xs.any fun p => decide (p.1 = a)) = true then xs.map (fun p => if p.1 = a then (p.1, v) else p) else xs ++ [(a, v)]
theorem dget_tD (E : EncK n f k) (a : α) : ∀ xs : List (α × Int), dget (tD f xs) (f a) = (tget xs a).map D.int
  | [] => rfl
  | p :: r => by
    have ih := dget_tD E a r
    unfold dget at ih ⊢
    unfold tget
    show (List.find? _ ((f p.1, D.int p.2) :: tD f r)).map _ = _
    rw [List.find?_cons, nkEq_enc E]
    by_cases h : p.1 = a
    · rw [if_pos h, decide_eq_true h]; rfl
    · rw [if_neg h, decide_eq_false h]; exact ih
theorem dput_tD (E : EncK n f k) (xs : List (α × Int)) (a : α) (v : Int) : dput (tD f xs) (f a) (.int v) = tD f (tput xs a v) := by
  have e : ((tD f xs).any fun p => nkEq p.1 (f a)) = xs.any fun p => decide (p.1 = a) := by
    unfold tD
    rw [List.any_map]
    congr 1
    funext p
    exact nkEq_enc E p.1 a
  unfold dput tput
  rw [e]
  by_cases h : (xs.any fun p => decide (p.1 = a)) = true
  · rw [if_pos h, if_pos h]
    unfold tD
    rw [List.map_map, List.map_map]
    refine List.map_congr_left fun p _ => ?_
    show (if nkEq (f p.1) (f a) = true then (f p.1, D.int v) else (f p.1, D.int p.2)) = (f (if p.1 = a then (p.1, v) else p).1, D.int (if p.1 = a then (p.1, v) else p).2)
    rw [nkEq_enc E]
    by_cases h : p.1 = a
    · rw [decide_eq_true h, if_pos rfl, if_pos h]
    · rw [decide_eq_false h, if_neg Bool.false_ne_true, if_neg h]
  · rw [if_neg h, if_neg h]
    unfold tD
    rw [List.map_append]
    rfl
theorem tput_len (xs : List (α × Int)) (a : α) (v : Int) : (tput xs a v).length ≤ xs.length + 1 := by
  unfold tput
  split
  · rw [List.length_map]; exact Nat.le_succ _
  · rw [List.length_append]; exact Nat.le_refl _
theorem tget_any (a : α) : ∀ xs : List (α × Int), (xs.any fun p => decide (p.1 = a)) = (tget xs a).isSome
  | [] => rfl
  | p :: r => by
    unfold tget
    rw [List.any_cons, tget_any a r]
    by_cases h : p.1 = a
    · rw [if_pos h, decide_eq_true h]; rfl
    · rw [if_neg h, decide_eq_false h]; rfl
theorem tget_map (a b : α) (v : Int) : ∀ xs : List (α × Int), tget (xs.map fun p => if p.1 = a then (p.1, v) else p) b = if a = b then (if (xs.any fun p => decide (p.1 = a)) = true then some v else none) else tget xs b
  | [] => by simp [tget]
  | p :: r => by
    have ih := tget_map a b v r
    rw [List.map_cons, List.any_cons]
    unfold tget
    rw [ih]
    by_cases h : p.1 = a
    · subst h
      by_cases hb : p.1 = b
      · simp [hb]
      · simp [hb]
    · simp only [if_neg h, decide_eq_false h, Bool.false_or]
      by_cases hab : a = b
      · subst hab; simp only [if_neg h, if_true]
      · simp only [if_neg hab]
theorem tget_app (a b : α) (v : Int) : ∀ xs : List (α × Int), tget (xs ++ [(a, v)]) b = match tget xs b with
    | some x => some x
    | none => if a = b then some v else none
  | [] => by simp [tget]
  | p :: r => by
    have ih := tget_app a b v r
    rw [List.cons_append]
    unfold tget
    by_cases h : p.1 = b
    · simp [h]
    · simp [h, ih]
theorem tget_tput (xs : List (α × Int)) (a b : α) (v : Int) : tget (tput xs a v) b = if a = b then some v else tget xs b := by
  unfold tput
  by_cases h : (xs.any fun p => decide (p.1 = a)) = true
  · rw [if_pos h, tget_map, if_pos h]
  · rw [if_neg h, tget_app]
    rw [tget_any] at h
    by_cases hab : a = b
    · subst hab
      cases hx : tget xs a with
      | none => simp
      | some x => rw [hx] at h; exact absurd rfl h
    · simp only [if_neg hab]
      cases tget xs b <;> rfl
end
end LW
namespace BO
open PySem PySem.Spec PyProof.Rows L2 LW
abbrev Told := List (Bool × Int)
abbrev Ones := List ((Bool × Nat) × Int)
abbrev onK : Bool × Nat → D := fun p => .tup [.bl p.1, .int (p.2 : Nat)]
theorem encK_on : EncK 1 onK (fun p => NestedKey.tup [NestedKey.num (if p.1 = true then 1 else 0), NestedKey.num (p.2 : Nat)]) := encK_bl.pair encK_nat
theorem tKey_on (p : Bool × Nat) : tKey (onK p) := ⟨rfl, _, encK_on.nk p, Nat.le_trans (encK_on.dep p) (by decide)⟩
theorem tKey_ones (o : Ones) : ∀ p ∈ tD onK o, tKey p.1 := fun p hp => by
  obtain ⟨e, _, rfl⟩ := List.mem_map.mp hp
  exact tKey_on e.1
theorem bKey_told (t : Told) : ∀ p ∈ tD D.bl t, ∃ b, p.1 = .bl b := fun p hp => by
  obtain ⟨e, _, rfl⟩ := List.mem_map.mp hp
  exact ⟨e.1, rfl⟩
/-- a bit after another is counted -/
def upO (g : Int → Int → Int) (a : Bool) (pt : Pt) : Nat → Ones → Ones
  | 0, o => o
  | i + 1, o => tput (upO g a pt i o) (a, i) (g ((tget (upO g a pt i o) (a, i)).getD 0) (pt.getD i 0))
theorem upO_len (g : Int → Int → Int) (a : Bool) (pt : Pt) (o : Ones) : ∀ i, (upO g a pt i o).length ≤ o.length + i
  | 0 => Nat.le_refl _
  | i + 1 => by
    have h1 := upO_len g a pt o i
    have h2 := tput_len (upO g a pt i o) (a, i) (g ((tget (upO g a pt i o) (a, i)).getD 0) (pt.getD i 0))
    show (tput _ _ _).length ≤ _
    omega
theorem upO_get (g : Int → Int → Int) (a : Bool) (pt : Pt) (o : Ones) (b : Bool) (p : Nat) : ∀ i, tget (upO g a pt i o) (b, p) = if a = b ∧ p < i then some (g ((tget o (b, p)).getD 0) (pt.getD p 0)) else tget o (b, p)
  | 0 => by
    rw [if_neg fun h => Nat.not_lt_zero _ h.2]
    rfl
  | i + 1 => by
    show tget (tput _ _ _) _ = _
    rw [tget_tput, upO_get g a pt o a i i, if_neg (c := (a = a ∧ i < i)) fun h => Nat.lt_irrefl _ h.2, upO_get g a pt o b p i]
    by_cases h : (a, i) = (b, p)
    · injection h with h1 h2
      subst h1 h2
      rw [if_pos rfl, if_pos ⟨rfl, Nat.lt_succ_self _⟩]
    · rw [if_neg h]
      by_cases h2 : a = b ∧ p < i
      · rw [if_pos h2, if_pos ⟨h2.1, Nat.lt_succ_of_lt h2.2⟩]
      · rw [if_neg h2, if_neg]
        rintro ⟨e, hp⟩
        have : p ≠ i := fun z => h (by rw [e, z])
        exact h2 ⟨e, by omega⟩
/-! sums over examples -/
def sumE (g : Ex → Int) (E : List Ex) : Int := (E.map g).sum
theorem sumE_app (g : Ex → Int) (E : List Ex) (e : Ex) : sumE g (E ++ [e]) = sumE g E + g e := by
  unfold sumE
  rw [List.map_append, List.sum_append]
  simp
def dropE (E : List Ex) (pt : Pt) : List Ex := E.filter fun e => !decide (e.1 = pt)
theorem dropE_not {E : List Ex} {pt : Pt} (h : pt ∉ E.map (·.1)) : dropE E pt = E := by
  unfold dropE
  rw [List.filter_eq_self]
  intro e he
  rw [decide_eq_false fun z => h (by rw [← z]; exact List.mem_map.mpr ⟨e, he, rfl⟩)]
  rfl
theorem sumE_drop (g : Ex → Int) : ∀ {E : List Ex} {e : Ex}, (E.map (·.1)).Nodup → e ∈ E → sumE g E = sumE g (dropE E e.1) + g e
  | x :: r, e, nd, h => by
    rw [List.map_cons, List.nodup_cons] at nd
    rcases List.mem_cons.mp h with z | z
    · subst z
      have e1 : dropE (e :: r) e.1 = r := by
        show List.filter _ (e :: r) = r
        rw [List.filter_cons_of_neg (by simp)]
        exact dropE_not nd.1
      rw [e1]
      unfold sumE
      rw [List.map_cons, List.sum_cons, Int.add_comm]
    · have ne : ¬ x.1 = e.1 := fun q => nd.1 (by rw [q]; exact List.mem_map.mpr ⟨e, z, rfl⟩)
      have e1 : dropE (x :: r) e.1 = x :: dropE r e.1 := by
        show List.filter _ (x :: r) = _
        rw [List.filter_cons_of_pos (by rw [decide_eq_false ne]; rfl)]
        rfl
      have ih := sumE_drop g nd.2 z
      rw [e1]
      unfold sumE at ih ⊢
      rw [List.map_cons, List.sum_cons, List.map_cons, List.sum_cons, ih]
      omega
theorem sumE_nn (g : Ex → Int) : ∀ {E : List Ex}, (∀ x ∈ E, 0 ≤ g x) → 0 ≤ sumE g E
  | [], _ => Int.le_refl _
  | y :: r, h0 => by
    have h1 := h0 y List.mem_cons_self
    have h2 := sumE_nn g (E := r) fun z hz => h0 z (List.mem_cons_of_mem _ hz)
    show 0 ≤ (List.map g (y :: r)).sum
    rw [List.map_cons, List.sum_cons]
    unfold sumE at h2
    omega
theorem sumE_ge (g : Ex → Int) : ∀ {E : List Ex} {e : Ex}, (∀ x ∈ E, 0 ≤ g x) → e ∈ E → g e ≤ sumE g E
  | x :: r, e, h0, h => by
    have hr : 0 ≤ sumE g r := sumE_nn g fun y hy => h0 y (List.mem_cons_of_mem _ hy)
    have hx := h0 x List.mem_cons_self
    show g e ≤ (List.map g (x :: r)).sum
    rw [List.map_cons, List.sum_cons]
    unfold sumE at hr
    rcases List.mem_cons.mp h with z | z
    · subst z; omega
    · have ih := sumE_ge g (E := r) (fun y hy => h0 y (List.mem_cons_of_mem _ hy)) z
      unfold sumE at ih
      omega
def cntE (E : List Ex) (a : Bool) : Int := sumE (fun e => if e.2 = a then 1 else 0) E
def oneE (E : List Ex) (a : Bool) (p : Nat) : Int := sumE (fun e => if e.2 = a then e.1.getD p 0 else 0) E
structure CntOk (many : Nat) (E : List Ex) (t : Told) (o : Ones) : Prop where
  ct : ∀ a, (tget t a).getD 0 = cntE E a
  co : ∀ a p, p < many → (tget o (a, p)).getD 0 = oneE E a p
  tp : ∀ e ∈ E, (tget t e.2).isSome = true
  op : ∀ e ∈ E, ∀ p, p < many → (tget o (e.2, p)).isSome = true
theorem CntOk.nil (many : Nat) : CntOk many [] [] [] := ⟨fun _ => rfl, fun _ _ _ => rfl, fun _ h => absurd h List.not_mem_nil, fun _ h => absurd h List.not_mem_nil⟩
def toldP (t : Told) (a : Bool) (s : Int) : Told := tput t a ((tget t a).getD 0 + s)
theorem CntOk.put {many : Nat} {E : List Ex} {t : Told} {o : Ones} (h : CntOk many E t o) (e : Ex) : CntOk many (E ++ [e]) (toldP t e.2 1) (upO (· + ·) e.2 e.1 many o) := by
  refine ⟨fun a => ?_, fun a p hp => ?_, fun x hx => ?_, fun x hx p hp => ?_⟩
  · have h1 := h.ct a
    unfold toldP cntE at *
    rw [tget_tput, sumE_app]
    by_cases z : e.2 = a
    · rw [if_pos z, if_pos z]
      show (tget t e.2).getD 0 + 1 = _
      rw [z, h1]
    · rw [if_neg z, if_neg z, h1]; omega
  · have h1 := h.co a p hp
    unfold oneE at *
    rw [upO_get, sumE_app]
    by_cases z : e.2 = a
    · rw [if_pos ⟨z, hp⟩, if_pos z]
      show _ + _ = _
      rw [h1]
    · rw [if_neg fun q => z q.1, if_neg z, h1]; omega
  · unfold toldP
    rw [tget_tput]
    by_cases z : e.2 = x.2
    · rw [if_pos z]; rfl
    · rw [if_neg z]
      rcases List.mem_append.mp hx with q | q
      · exact h.tp x q
      · cases List.mem_singleton.mp q; exact absurd rfl z
  · rw [upO_get]
    by_cases z : e.2 = x.2
    · rw [if_pos ⟨z, hp⟩]; rfl
    · rw [if_neg fun q => z q.1]
      rcases List.mem_append.mp hx with q | q
      · exact h.op x q p hp
      · cases List.mem_singleton.mp q; exact absurd rfl z
theorem CntOk.take {many : Nat} {E : List Ex} {t : Told} {o : Ones} (h : CntOk many E t o) (nd : (E.map (·.1)).Nodup) {e : Ex} (he : e ∈ E) : CntOk many (dropE E e.1) (toldP t e.2 (-1)) (upO (· - ·) e.2 e.1 many o) := by
  refine ⟨fun a => ?_, fun a p hp => ?_, fun x hx => ?_, fun x hx p hp => ?_⟩
  · have h1 := h.ct a
    unfold toldP cntE at *
    have h2 := sumE_drop (fun e => if e.2 = a then 1 else 0) nd he
    rw [tget_tput]
    by_cases z : e.2 = a
    · rw [if_pos z]
      rw [if_pos z] at h2
      show (tget t e.2).getD 0 + -1 = _
      rw [z, h1]
      omega
    · rw [if_neg z]
      rw [if_neg z] at h2
      omega
  · have h1 := h.co a p hp
    unfold oneE at *
    have h2 := sumE_drop (fun e => if e.2 = a then e.1.getD p 0 else 0) nd he
    rw [upO_get]
    by_cases z : e.2 = a
    · rw [if_pos ⟨z, hp⟩]
      rw [if_pos z] at h2
      show (tget o (a, p)).getD 0 - _ = _
      rw [h1]
      omega
    · rw [if_neg fun q => z q.1]
      rw [if_neg z] at h2
      omega
  · unfold toldP
    rw [tget_tput]
    by_cases z : e.2 = x.2
    · rw [if_pos z]; rfl
    · rw [if_neg z]; exact h.tp x (List.mem_filter.mp hx).1
  · rw [upO_get]
    by_cases z : e.2 = x.2
    · rw [if_pos ⟨z, hp⟩]; rfl
    · rw [if_neg fun q => z q.1]; exact h.op x (List.mem_filter.mp hx).1 p hp
/-- what take asks ahead -/
theorem CntOk.can {many : Nat} {E : List Ex} {t : Told} {o : Ones} (h : CntOk many E t o) (g : Good many E) {e : Ex} (he : e ∈ E) :
    ¬ (tget t e.2).getD 0 = 0 ∧ ∀ p, p < many → (e.1.getD p 0 = 1 → 0 < (tget o (e.2, p)).getD 0) ∧ (e.1.getD p 0 = 0 → (tget o (e.2, p)).getD 0 < (tget t e.2).getD 0) := by
  have hb : ∀ x ∈ E, ∀ p, x.1.getD p 0 = 0 ∨ x.1.getD p 0 = 1 := fun x hx p => by
    rw [List.getD_eq_getElem?_getD]
    cases hq : x.1[p]? with
    | none => exact .inl rfl
    | some b => exact g.bit x hx b (List.mem_of_getElem? hq)
  refine ⟨fun z => ?_, fun p hp => ⟨fun hbit => ?_, fun hbit => ?_⟩⟩
  · rw [h.ct] at z
    have := sumE_ge (fun x => if x.2 = e.2 then (1 : Int) else 0) (E := E) (fun x _ => by split <;> omega) he
    rw [if_pos rfl] at this
    unfold cntE at z
    omega
  · rw [h.co _ _ hp]
    have := sumE_ge (fun x => if x.2 = e.2 then x.1.getD p 0 else 0) (E := E) (fun x hx => by have := hb x hx p; split <;> omega) he
    rw [if_pos rfl, hbit] at this
    unfold oneE
    omega
  · rw [h.co _ _ hp, h.ct]
    have h1 := sumE_ge (fun x => if x.2 = e.2 then 1 - x.1.getD p 0 else 0) (E := E) (fun x hx => by have := hb x hx p; split <;> omega) he
    rw [if_pos rfl, hbit] at h1
    have h2 : ∀ E : List Ex, sumE (fun x => if x.2 = e.2 then 1 - x.1.getD p 0 else 0) E = cntE E e.2 - oneE E e.2 p := fun E => by
      unfold cntE oneE sumE
      induction E with
      | nil => rfl
      | cons x r ih =>
        rw [List.map_cons, List.sum_cons, List.map_cons, List.sum_cons, List.map_cons, List.sum_cons, ih]
        by_cases z : x.2 = e.2
        · rw [if_pos z, if_pos z, if_pos z]; omega
        · rw [if_neg z, if_neg z, if_neg z]; omega
    rw [h2] at h1
    omega
end BO

set_option Elab.async false
set_option linter.all false
set_option maxRecDepth 100000
set_option maxHeartbeats 4000000
/-! Counts. -/
namespace BO
open PySem PySem.Spec PyProof.Rows L2 LW
theorem enum_map (pt : Pt) : enumFromD 0 (pt.map D.int) = (List.range pt.length).map fun i => D.tup [.int (i : Nat), .int (pt.getD i 0)] := by
  refine List.ext_getElem? fun i => ?_
  cases h : (enumFromD 0 (pt.map D.int))[i]? with
  | none =>
    rw [List.getElem?_eq_none_iff, enumFromD_len, List.length_map] at h
    rw [List.getElem?_eq_none (by rw [List.length_map, List.length_range]; exact h)]
  | some d =>
    have hl := (List.getElem?_eq_some_iff.mp h).1
    rw [enumFromD_len, List.length_map] at hl
    obtain ⟨a, ha, e⟩ := enumFromD_get h
    rw [List.getElem?_map, List.getElem?_eq_getElem hl] at ha
    cases ha
    rw [List.getElem?_map, List.getElem?_range hl, e, Nat.zero_add]
    have e2 : pt.getD i 0 = pt[i] := by rw [List.getD_eq_getElem?_getD, List.getElem?_eq_getElem hl]; rfl
    show some _ = some (D.tup [.int (i : Nat), .int (pt.getD i 0)])
    rw [e2]
def cntF (many : Nat) (qt qo : Addr) : List (Str × D) := [("many", .int (many : Nat)), ("told", .ref qt), ("ones", .ref qo)]
def cntM (C q qt qo : Addr) (many : Nat) (t : Told) (o : Ones) : Mem := [some (q, .obj C (cntF many qt qo)), some (qt, .dic (tD D.bl t)), some (qo, .dic (tD onK o))]
structure CnI where
  q : Addr
  many : Nat
structure CnA where
  q : Addr
  qt : Addr
  qo : Addr
  many : Nat
  t : Told
  o : Ones
  pt : Pt
  a : Bool
  hb : ∀ b ∈ pt, b = 0 ∨ b = 1
  hl : pt.length = many
  hm : many ≤ 1000
  h1 : t.length ≤ 1000
  h2 : o.length ≤ 1000
structure CtA extends CnA where
  c0 : ¬ (tget t a).getD 0 = 0
  c1 : ∀ p, p < many → (pt.getD p 0 = 1 → 0 < (tget o (a, p)).getD 0) ∧ (pt.getD p 0 = 0 → (tget o (a, p)).getD 0 < (tget t a).getD 0)
  c2 : (tget t a).isSome = true
  c3 : ∀ p, p < many → (tget o (a, p)).isSome = true
structure CcA where
  q : Addr
  qt : Addr
  qo : Addr
  many : Nat
  t : Told
  o : Ones
  a : Bool
  p : Nat
  b : Int
  c2 : (tget t a).isSome = true
theorem optI (x : Option Int) (i : Int) : (x.map D.int).getD (.int i) = .int (x.getD i) := by cases x <;> rfl
theorem optS {x : Option Int} (h : x.isSome = true) : x.map D.int = some (.int (x.getD 0)) := by cases x with
  | none => cases h
  | some v => rfl
end BO
namespace H66
open PySem PySem.Spec PyProof.Rows L2 LW BO
theorem sc_Ci : FnScope ["self", "many"] ["self", "many"] (defScope s_Counts_init) := ⟨rfl, rfl, rfl, by decide +kernel, rfl, by decide +kernel, by decide +kernel⟩
theorem sc_Cp : FnScope ["self", "point", "answer", "place", "bit"] ["self", "point", "answer"] (defScope s_Counts_put) := ⟨rfl, rfl, rfl, by decide +kernel, rfl, by decide +kernel, by decide +kernel⟩
theorem sc_Ct : FnScope ["self", "point", "answer", "place", "bit"] ["self", "point", "answer"] (defScope s_Counts_take) := ⟨rfl, rfl, rfl, by decide +kernel, rfl, by decide +kernel, by decide +kernel⟩
theorem sc_Cc : FnScope ["self", "answer", "place", "bit", "ones"] ["self", "answer", "place", "bit"] (defScope s_Counts_can_take) := ⟨rfl, rfl, rfl, by decide +kernel, rfl, by decide +kernel, by decide +kernel⟩
section
variable {P : Program} {w : World} {K : PySem.W.Frag} {mg : Str → Option Value} {base : Heap} {T : List Addr}
theorem Ci_ok (F : Fx P w K mg base) : Cal P w K mg base 1 (He.fAd K ("Counts", some "__init__")) ["self", "many"] (spC w T (fun x : CnI => [.ref x.q, .int (x.many : Nat)]) (fun x => [some (x.q, .obj (He.ga K "Counts") [])]) (fun x d m => d = .non ∧ ∃ qt qo, m = cntM (He.ga K "Counts") x.q qt qo x.many [] [])) := by
  obtain ⟨fd, Fc, hb⟩ := F.fn_Counts_init
  refine ⟨⟨fd, LW.fn_ok Fc sc_Ci (fun x => [some (.ref x.q), some (.int (x.many : Nat))]) (fun x A outer s H E hr => ?_), hb⟩, Fc.kp⟩
  obtain ⟨q, many⟩ := x
  refine pb_fld 0 (pd_var 1) (fun _ => pd_var 0) F.cls_Counts F.noat_Counts_many ?_
  refine pb_seq (Nx1 := fun ρ' m => ρ' = [some (.ref q), some (.int (many : Nat))] ∧ ∃ qt, m = [some (q, .obj (He.ga K "Counts") [("many", .int (many : Nat)), ("told", .ref qt)]), some (qt, .dic [])]) (pb1_fldR (j := 0) pdr_dnew (fun _ => pd_var 0) F.cls_Counts F.noat_Counts_told fun d m ⟨qt, e1, e2⟩ => by
    subst e1 e2
    exact ⟨[("many", .int (many : Nat))], rfl, Nat.le_of_ble_eq_true rfl, rfl, qt, rfl⟩) fun ρ' m ⟨e1, qt, e2⟩ => ?_
  subst e1 e2
  refine pb_one (pb1_fldR (j := 0) pdr_dnew (fun _ => pd_var 0) F.cls_Counts F.noat_Counts_ones fun d m ⟨qo, e1, e2⟩ => ?_)
  subst e1 e2
  exact ⟨[("many", .int (many : Nat)), ("told", .ref qt)], rfl, Nat.le_of_ble_eq_true rfl, rfl, qt, qo, rfl⟩
theorem Cc_ok (F : Fx P w K mg base) : Cal P w K mg base 1 (He.fAd K ("Counts", some "can_take")) ["self", "answer", "place", "bit"] (spC w T (fun x : CcA => [.ref x.q, .bl x.a, .int (x.p : Nat), .int x.b]) (fun x => cntM (He.ga K "Counts") x.q x.qt x.qo x.many x.t x.o)
    (fun x d m => d = .bl (if x.b = 1 then decide (0 < (tget x.o (x.a, x.p)).getD 0) else decide ((tget x.o (x.a, x.p)).getD 0 < (tget x.t x.a).getD 0)) ∧ m = cntM (He.ga K "Counts") x.q x.qt x.qo x.many x.t x.o)) := by
  obtain ⟨fd, Fc, hb⟩ := F.fn_Counts_can_take
  refine ⟨⟨fd, LW.fn_ok Fc sc_Cc (fun x => [some (.ref x.q), some (.bl x.a), some (.int (x.p : Nat)), some (.int x.b), none]) (fun x A outer s H E hr => ?_), hb⟩, Fc.kp⟩
  have nd := sc_Cc.nd
  obtain ⟨q, qt, qo, many, t, o, a, p, b, c2⟩ := x
  refine pb_set (d := .int ((tget o (a, p)).getD 0)) (M1 := cntM (He.ga K "Counts") q qt qo many t o) 4 (pd_cast (pd_dget2 (kvs := tD onK o) (dk := onK (a, p)) (db := .int 0) dk_t (un_of hr (by decide)) (DV.own 2) (DV.own 2) (tKey_ones o) (tKey_on _) (pd_fld (OV.own 0) F.cls_Counts F.noat_Counts_ones (pd_var 0)) (pd_tup (pdl_cons (pd_var 1) (pdl_1 (pd_var 2)))) pd_int) (by rw [dget_tD encK_on, optI])) nd ?_
  refine pb_ret (pd_ifc (k := decide (b = 1)) (pdt_eqI (pd_var 3) pd_int) (fun hk => pd_cast (pd_gt (pd_var 4) pd_int) ?_) fun hk => pd_cast (pd_gt (pd_dsub (kvs := tD D.bl t) (dk := .bl a) dk_bool (un_of hr (by decide)) (DV.own 1) (bKey_told t) ⟨a, rfl⟩ (by rw [dget_tD encK_bl, optS c2]) (pd_fld (OV.own 0) F.cls_Counts F.noat_Counts_told (pd_var 0)) (pd_var 1)) (pd_var 4)) ?_) ⟨rfl, rfl⟩
  · rw [if_pos (of_decide_eq_true hk)]
  · rw [if_neg (of_decide_eq_false hk)]
theorem Cp_ok (F : Fx P w K mg base) : Cal P w K mg base 3 (He.fAd K ("Counts", some "put")) ["self", "point", "answer"] (spC w (Tb K) (fun x : CnA => [.ref x.q, ptD x.pt, .bl x.a]) (fun x => cntM (He.ga K "Counts") x.q x.qt x.qo x.many x.t x.o)
    (fun x d m => d = .non ∧ m = cntM (He.ga K "Counts") x.q x.qt x.qo x.many (toldP x.t x.a 1) (upO (· + ·) x.a x.pt x.many x.o))) := by
  obtain ⟨fd, Fc, hb⟩ := F.fn_Counts_put
  refine ⟨⟨fd, LW.fn_ok Fc sc_Cp (fun x => [some (.ref x.q), some (ptD x.pt), some (.bl x.a), none, none]) (fun x A outer s H E hr => ?_), hb⟩, Fc.kp⟩
  have nd := sc_Cp.nd
  obtain ⟨q, qt, qo, many, t, o, pt, a, hb, hl, hm, h1, h2⟩ := x
  have hz := sizeLine_eq
  refine pb_set (d := ptD pt) (M1 := cntM (He.ga K "Counts") q qt qo many t o) 1 (pd_cC (⟨false, pt, hb, by rw [hl]; exact hm⟩ : CpA) (cp_ok F) (hr.mono (by decide)) F.glo_check_point (pdl_cons (pd_var 1) (pdl_1 (pd_fld (OV.own 0) F.cls_Counts F.noat_Counts_many (pd_var 0)))) (by show [ptD pt, D.int (pt.length : Nat)] = [ptD pt, D.int (many : Nat)]; rw [hl])) nd ?_
  refine pb_dput (kvs := tD D.bl t) (dk := .bl a) (dv := .int ((tget t a).getD 0 + 1)) (q := qt) 1 dk_bool (un_of hr (by decide)) (pd_add (pd_cast (pd_dget2 (kvs := tD D.bl t) (dk := .bl a) (db := .int 0) dk_bool (un_of hr (by decide)) (DV.own 1) (DV.own 1) (bKey_told t) ⟨a, rfl⟩ (pd_fld (OV.own 0) F.cls_Counts F.noat_Counts_told (pd_var 0)) (pd_var 2) pd_int) (by rw [dget_tD encK_bl, optI])) pd_int)
    (pd_fld (OV.own 0) F.cls_Counts F.noat_Counts_told (pd_var 0)) (pd_var 2) rfl (bKey_told t) ⟨a, rfl⟩ (by unfold tD; rw [List.length_map]; omega) ?_
  rw [dput_tD encK_bl]
  refine pb_for (pdi_enum (as := pt.map D.int) SV.tup F.free_enumerate (pd_var 1)) (pg_tup rfl (pgs_cons (pg_name nd (i := 3) rfl (Or.inl rfl)) (pgs_cons (pg_name nd (i := 4) rfl (Or.inl rfl)) pgs_nil))) (tgt_tup [3, 4]) (fun i ρ m => m = cntM (He.ga K "Counts") q qt qo many (toldP t a 1) (upO (· + ·) a pt i o) ∧ ∃ t u, ρ = [some (.ref q), some (ptD pt), some (.bl a), t, u])
    ⟨rfl, none, none, rfl⟩ (fun _ _ _ _ _ => SV.tup) (fun i d h => ?_) (fun i d us ρ' m g1 g2 g3 => ?_) fun ρ' m h => ?_
  · obtain ⟨a, _, rfl⟩ := enumFromD_get h
    exact ⟨_, rfl⟩
  · obtain ⟨rfl, t3, t4, rfl⟩ := g3
    rw [enum_map] at g1
    obtain ⟨j, hj, rfl⟩ := map_get g1
    obtain ⟨hil, rfl⟩ := List.getElem?_eq_some_iff.mp hj
    rw [List.length_range] at hil
    rw [List.getElem_range] at g2
    cases g2
    have hlen := upO_len (· + ·) a pt o i
    refine pb_dput (kvs := tD onK (upO (· + ·) a pt i o)) (dk := onK (a, i)) (dv := .int ((tget (upO (· + ·) a pt i o) (a, i)).getD 0 + pt.getD i 0)) (q := qo) 2 dk_t (un_of hr (by decide)) (pd_add (pd_cast (pd_dget2 (kvs := tD onK (upO (· + ·) a pt i o)) (dk := onK (a, i)) (db := .int 0) dk_t (un_of hr (by decide)) (DV.own 2) (DV.own 2) (tKey_ones _) (tKey_on _) (pd_fld (OV.own 0) F.cls_Counts F.noat_Counts_ones (pd_var 0)) (pd_tup (pdl_cons (pd_var 2) (pdl_1 (pd_var 3)))) pd_int) (by rw [dget_tD encK_on, optI])) (pd_var 4))
      (pd_fld (OV.own 0) F.cls_Counts F.noat_Counts_ones (pd_var 0)) (pd_tup (pdl_cons (pd_var 2) (pdl_1 (pd_var 3)))) rfl (tKey_ones _) (tKey_on _) (by unfold tD; rw [List.length_map]; omega) (pb_nil ⟨?_, _, _, rfl⟩)
    rw [dput_tD encK_on]
    rfl
  · obtain ⟨rfl, t3, t4, rfl⟩ := h
    rw [enumFromD_len, List.length_map, hl]
    exact pb_nil ⟨rfl, rfl⟩
theorem Ct_ok (F : Fx P w K mg base) : Cal P w K mg base 3 (He.fAd K ("Counts", some "take")) ["self", "point", "answer"] (spC w (Tb K) (fun x : CtA => [.ref x.q, ptD x.pt, .bl x.a]) (fun x => cntM (He.ga K "Counts") x.q x.qt x.qo x.many x.t x.o)
    (fun x d m => d = .non ∧ m = cntM (He.ga K "Counts") x.q x.qt x.qo x.many (toldP x.t x.a (-1)) (upO (· - ·) x.a x.pt x.many x.o))) := by
  obtain ⟨fd, Fc, hb⟩ := F.fn_Counts_take
  refine ⟨⟨fd, LW.fn_ok Fc sc_Ct (fun x => [some (.ref x.q), some (ptD x.pt), some (.bl x.a), none, none]) (fun x A outer s H E hr => ?_), hb⟩, Fc.kp⟩
  have nd := sc_Ct.nd
  obtain ⟨tb, hT⟩ := F.tb_Counts_take
  have gk := gk_of (P := P) (w := w) (H := H) (E := E) (outer := outer) (s := s) tb hT hr nd
  obtain ⟨⟨q, qt, qo, many, t, o, pt, a, hb, hl, hm, h1, h2⟩, c0, c1, c2, c3⟩ := x
  have c3 : ∀ p, p < many → (tget o (a, p)).isSome = true := c3
  have hz := sizeLine_eq
  refine pb_set (d := ptD pt) (M1 := cntM (He.ga K "Counts") q qt qo many t o) 1 (pd_cC (⟨false, pt, hb, by rw [hl]; exact hm⟩ : CpA) (cp_ok F) (hr.mono (by decide)) F.glo_check_point (pdl_cons (pd_var 1) (pdl_1 (pd_fld (OV.own 0) F.cls_Counts F.noat_Counts_many (pd_var 0)))) (by show [ptD pt, D.int (pt.length : Nat)] = [ptD pt, D.int (many : Nat)]; rw [hl])) nd ?_
  refine pb_ifno (pdt_cast (pdt_eqI (i := (tget t a).getD 0) (pd_cast (pd_dget2 (kvs := tD D.bl t) (dk := .bl a) (db := .int 0) dk_bool (un_of hr (by decide)) (DV.own 1) (DV.own 1) (bKey_told t) ⟨a, rfl⟩ (pd_fld (OV.own 0) F.cls_Counts F.noat_Counts_told (pd_var 0)) (pd_var 2) pd_int) (by rw [dget_tD encK_bl, optI])) pd_int) (decide_eq_false c0)) ?_
  have hbt : ∀ p, pt.getD p 0 = 0 ∨ pt.getD p 0 = 1 := fun p => by
    rw [List.getD_eq_getElem?_getD]
    cases hq : pt[p]? with
    | none => exact .inl rfl
    | some b => exact hb b (List.mem_of_getElem? hq)
  refine pb_ifno (pdt_cast (pdt_val (pd_any (k := 1) (own := [("place", 3), ("bit", 4)]) (xs := List.range pt.length) (kp := fun _ => true) (el := fun i => !(if pt.getD i 0 = 1 then decide (0 < (tget o (a, i)).getD 0) else decide ((tget o (a, i)).getD 0 < (tget t a).getD 0))) (enc := fun i => .tup [.int (i : Nat), .int (pt.getD i 0)]) (us := fun i => [.int (i : Nat), .int (pt.getD i 0)]) gk F.free_any (pdi_enum (as := pt.map D.int) SV.tup F.free_enumerate (pd_var 1)) (genB_by (by kernel_rfl))
    (fun Ag s H C cl code fp pn hr => pg_tup rfl (pgs_cons (pg_name nd (i := 3) rfl (Or.inl rfl) (.inr rfl)) (pgs_cons (pg_name nd (i := 4) rfl (Or.inl rfl) (.inr rfl)) pgs_nil))) (tgt_tup [3, 4]) (by decide) SV.tup ⟨enum_map pt, fun _ => rfl⟩
    (fun p hp Ag s H C cl code fp pn hr => pdts_nil) fun p hp _ Ag s H C cl code fp pn hr => pd_not (pd_ofR (pdr_mC (⟨q, qt, qo, many, t, o, a, p, pt.getD p 0, c2⟩ : CcA) (Cc_ok F) hr F.cls_Counts F.meth_Counts_can_take (pd_var 0) (OV.own 0) (pdl_cons (pd_var 2) (pdl_cons (pd_var 3) (pdl_1 (pd_var 4)))) rfl Fram.all) fun d m ⟨m', e1, e2, e3⟩ => ⟨e2, e1.trans e3⟩))) ?_) ?_
  · refine List.any_eq_false.mpr fun p hp => ?_
    rw [List.mem_range, hl] at hp
    obtain ⟨y1, y2⟩ := c1 p hp
    rcases hbt p with z | z
    · rw [z, if_neg (by decide), decide_eq_true (y2 z)]; decide
    · rw [z, if_pos rfl, decide_eq_true (y1 z)]; decide
  refine pb_daug (kvs := tD D.bl t) (dk := .bl a) (da := .int ((tget t a).getD 0)) (db := .int 1) (dc := .int ((tget t a).getD 0 - 1)) (q := qt) 1 dk_bool (un_of hr (by decide)) (pd_fld (OV.own 0) F.cls_Counts F.noat_Counts_told (pd_var 0)) (pd_var 2) pd_int rfl (bKey_told t) ⟨a, rfl⟩ (by unfold tD; rw [List.length_map]; omega) (by rw [dget_tD encK_bl, optS c2]) iop_sub ok_i0 ?_
  rw [dput_tD encK_bl]
  refine pb_for (pdi_enum (as := pt.map D.int) SV.tup F.free_enumerate (pd_var 1)) (pg_tup rfl (pgs_cons (pg_name nd (i := 3) rfl (Or.inl rfl)) (pgs_cons (pg_name nd (i := 4) rfl (Or.inl rfl)) pgs_nil))) (tgt_tup [3, 4]) (fun i ρ m => m = cntM (He.ga K "Counts") q qt qo many (toldP t a (-1)) (upO (· - ·) a pt i o) ∧ ∃ t u, ρ = [some (.ref q), some (ptD pt), some (.bl a), t, u])
    ⟨rfl, none, none, rfl⟩ (fun _ _ _ _ _ => SV.tup) (fun i d h => ?_) (fun i d us ρ' m g1 g2 g3 => ?_) fun ρ' m h => ?_
  · obtain ⟨a, _, rfl⟩ := enumFromD_get h
    exact ⟨_, rfl⟩
  · obtain ⟨rfl, t3, t4, rfl⟩ := g3
    rw [enum_map] at g1
    obtain ⟨j, hj, rfl⟩ := map_get g1
    obtain ⟨hil, rfl⟩ := List.getElem?_eq_some_iff.mp hj
    rw [List.length_range] at hil
    rw [List.getElem_range] at g2
    cases g2
    have hlen := upO_len (· - ·) a pt o i
    have c3' : (tget (upO (· - ·) a pt i o) (a, i)).isSome = true := by rw [upO_get, if_neg fun h => Nat.lt_irrefl _ h.2]; exact c3 i (by omega)
    refine pb_daug (kvs := tD onK (upO (· - ·) a pt i o)) (dk := onK (a, i)) (da := .int ((tget (upO (· - ·) a pt i o) (a, i)).getD 0)) (db := .int (pt.getD i 0)) (dc := .int ((tget (upO (· - ·) a pt i o) (a, i)).getD 0 - pt.getD i 0)) (q := qo) 2 dk_t (un_of hr (by decide)) (pd_fld (OV.own 0) F.cls_Counts F.noat_Counts_ones (pd_var 0)) (pd_tup (pdl_cons (pd_var 2) (pdl_1 (pd_var 3)))) (pd_var 4) rfl (tKey_ones _) (tKey_on _) (by unfold tD; rw [List.length_map]; omega) (by rw [dget_tD encK_on, optS c3']) iop_sub ok_i0 (pb_nil ⟨?_, _, _, rfl⟩)
    rw [dput_tD encK_on]
    rfl
  · obtain ⟨rfl, t3, t4, rfl⟩ := h
    rw [enumFromD_len, List.length_map, hl]
    exact pb_nil ⟨rfl, rfl⟩
end
end H66

set_option Elab.async false
set_option linter.all false
set_option maxRecDepth 100000
set_option maxHeartbeats 4000000
/-! number, point_of, answer_of, figure_of. -/
namespace BO
open PySem PySem.Spec PyProof.Rows L2 LW
def wordOf (pt : Pt) : Str := Txt.join "" (pt.map fun b => (toString b : Str))
def allB : Nat → List Pt
  | 0 => [[]]
  | n + 1 => (allB n).map (0 :: ·) ++ (allB n).map (1 :: ·)
theorem allB_mem : ∀ {n : Nat} {pt : Pt}, pt.length = n → (∀ b ∈ pt, b = 0 ∨ b = 1) → pt ∈ allB n
  | 0, [], _, _ => List.mem_singleton.mpr rfl
  | n + 1, b :: r, h, hb => by
    have ih := allB_mem (n := n) (pt := r) (by simpa using h) fun x hx => hb x (List.mem_cons_of_mem _ hx)
    rcases hb b List.mem_cons_self with z | z
    · subst z; exact List.mem_append_left _ (List.mem_map.mpr ⟨r, ih, rfl⟩)
    · subst z; exact List.mem_append_right _ (List.mem_map.mpr ⟨r, ih, rfl⟩)
def nonE (ys : List Str) : List Str := ys.filter fun y => !decide (y = "")
structure WOk (pt : Pt) : Prop where
  strip : Txt.stripChars (wordOf pt) "01" = ""
  bits : (wordOf pt).cps.toList.map (fun c => PySem.intText? ⟨#[c]⟩) = pt.map some
  len : (wordOf pt).length = pt.length
  see : ∀ b, nonE (Txt.split (("see " ++ wordOf pt) ++ (if b = true then " yes" else " no")) " ") = ([("see" : Str), wordOf pt, saidS b] : List Str)
  drop : nonE (Txt.split ("drop " ++ wordOf pt) " ") = ([("drop" : Str), wordOf pt] : List Str)
def wOk (pt : Pt) : Bool := decide (Txt.stripChars (wordOf pt) "01" = "") && decide ((wordOf pt).cps.toList.map (fun c => PySem.intText? ⟨#[c]⟩) = pt.map some) && decide ((wordOf pt).length = pt.length) &&
  decide (nonE (Txt.split (("see " ++ wordOf pt) ++ " yes") " ") = ([("see" : Str), wordOf pt, ("yes" : Str)] : List Str)) && decide (nonE (Txt.split (("see " ++ wordOf pt) ++ " no") " ") = ([("see" : Str), wordOf pt, ("no" : Str)] : List Str)) && decide (nonE (Txt.split ("drop " ++ wordOf pt) " ") = ([("drop" : Str), wordOf pt] : List Str))
theorem wOk_all : ((List.range 7).all fun n => (allB n).all fun pt => decide (pt.length = 0) || wOk pt) = true := by decide +kernel
theorem wok {pt : Pt} (h0 : 0 < pt.length) (h1 : pt.length ≤ 6) (hb : ∀ b ∈ pt, b = 0 ∨ b = 1) : WOk pt := by
  have h := List.all_eq_true.mp (List.all_eq_true.mp wOk_all pt.length (List.mem_range.mpr (by omega))) pt (allB_mem rfl hb)
  rw [decide_eq_false (by omega), Bool.false_or] at h
  unfold wOk at h
  simp only [Bool.and_eq_true, decide_eq_true_eq] at h
  obtain ⟨⟨⟨⟨⟨a1, a2⟩, a3⟩, a4⟩, a5⟩, a6⟩ := h
  exact ⟨a1, a2, a3, fun b => by cases b; exact a5; exact a4, a6⟩
structure NOk (n : Nat) : Prop where
  len : ((toString (n : Int) : Str)).length = 1
  strip : Txt.stripChars (toString (n : Int) : Str) "0123456789" = ""
  int : PySem.intText? (toString (n : Int) : Str) = some (n : Int)
  line : nonE (Txt.split ("open " ++ (toString (n : Int) : Str)) " ") = ([("open" : Str), (toString (n : Int) : Str)] : List Str)
def nOk (n : Nat) : Bool := decide (((toString (n : Int) : Str)).length = 1) && decide (Txt.stripChars (toString (n : Int) : Str) "0123456789" = "") && decide (PySem.intText? (toString (n : Int) : Str) = some (n : Int)) && decide (nonE (Txt.split ("open " ++ (toString (n : Int) : Str)) " ") = ([("open" : Str), (toString (n : Int) : Str)] : List Str))
theorem nOk_all : ((List.range 10).all nOk) = true := by decide +kernel
theorem nok {n : Nat} (h : n < 10) : NOk n := by
  have h := List.all_eq_true.mp nOk_all n (List.mem_range.mpr h)
  unfold nOk at h
  simp only [Bool.and_eq_true, decide_eq_true_eq] at h
  obtain ⟨⟨⟨a1, a2⟩, a3⟩, a4⟩ := h
  exact ⟨a1, a2, a3, a4⟩
theorem oneOk : nonE (Txt.split "tree" " ") = ([("tree" : Str)] : List Str) ∧ nonE (Txt.split "size" " ") = ([("size" : Str)] : List Str) ∧ nonE (Txt.split "flat" " ") = ([("flat" : Str)] : List Str) := by decide +kernel
theorem enum_gen {α : Type} (f : α → D) (z : α) (l : List α) : enumFromD 0 (l.map f) = (List.range l.length).map fun i => D.tup [.int (i : Nat), f (l.getD i z)] := by
  refine List.ext_getElem? fun i => ?_
  cases h : (enumFromD 0 (l.map f))[i]? with
  | none =>
    rw [List.getElem?_eq_none_iff, enumFromD_len, List.length_map] at h
    rw [List.getElem?_eq_none (by rw [List.length_map, List.length_range]; exact h)]
  | some d =>
    have hl := (List.getElem?_eq_some_iff.mp h).1
    rw [enumFromD_len, List.length_map] at hl
    obtain ⟨a, ha, e⟩ := enumFromD_get h
    rw [List.getElem?_map, List.getElem?_eq_getElem hl] at ha
    cases ha
    rw [List.getElem?_map, List.getElem?_range hl, e, Nat.zero_add]
    have e2 : l.getD i z = l[i] := by rw [List.getD_eq_getElem?_getD, List.getElem?_eq_getElem hl]; rfl
    show some _ = some (D.tup [.int (i : Nat), f (l.getD i z)])
    rw [e2]
def figE (x : Str) (i : Nat) : Int := ((i : Nat) + 1) * ((x.cps.toList.getD i 0 : Nat) : Int)
def figV (x : Str) : Int := (ordL x).sum % 2000003 * 9973 + sumIf (List.range x.cps.toList.length) (fun _ => true) (figE x) % 9973
theorem figV_pos (x : Str) : 0 ≤ figV x ∧ figV x < 10 ^ 11 := by
  unfold figV
  have h1 := Int.emod_nonneg (ordL x).sum (b := 2000003) (by decide)
  have h2 := Int.emod_lt_of_pos (ordL x).sum (b := 2000003) (by decide)
  have h3 := Int.emod_nonneg (sumIf (List.range x.cps.toList.length) (fun _ => true) (figE x)) (b := 9973) (by decide)
  have h4 := Int.emod_lt_of_pos (sumIf (List.range x.cps.toList.length) (fun _ => true) (figE x)) (b := 9973) (by decide)
  have e : (10 : Int) ^ 11 = 100000000000 := by decide
  rw [e]
  omega
structure WoA where
  pt : Pt
  h0 : 0 < pt.length
  h1 : pt.length ≤ 6
  hb : ∀ b ∈ pt, b = 0 ∨ b = 1
structure NuA where
  n : Nat
  h : n < 10
structure FgA where
  x : Str
  h : x.length ≤ 1000
end BO
namespace H66
open PySem PySem.Spec PyProof.Rows L2 LW BO
theorem sc_nu : FnScope ["word"] ["word"] (defScope s_number) := ⟨rfl, rfl, rfl, by decide +kernel, rfl, by decide +kernel, by decide +kernel⟩
theorem sc_po : FnScope ["word", "many", "sign"] ["word", "many"] (defScope s_point_of) := ⟨rfl, rfl, rfl, by decide +kernel, rfl, by decide +kernel, by decide +kernel⟩
theorem sc_an : FnScope ["word"] ["word"] (defScope s_answer_of) := ⟨rfl, rfl, rfl, by decide +kernel, rfl, by decide +kernel, by decide +kernel⟩
theorem sc_fg : FnScope ["text", "place", "sign"] ["text"] (defScope s_figure_of) := ⟨rfl, rfl, rfl, by decide +kernel, rfl, by decide +kernel, by decide +kernel⟩
section
variable {P : Program} {w : World} {K : PySem.W.Frag} {mg : Str → Option Value} {base : Heap} {T : List Addr}
theorem nu_ok (F : Fx P w K mg base) : Cal P w K mg base 1 (He.fAd K ("number", none)) ["word"] (spP w T (fun x : NuA => [.str (toString (x.n : Int) : Str)]) (fun x => .int (x.n : Nat))) := by
  obtain ⟨fd, Fc, hb⟩ := F.fn_number
  refine ⟨⟨fd, LW.fn_ok Fc sc_nu (fun x => [some (.str (toString (x.n : Int) : Str))]) (fun x A outer s H E hr => ?_), hb⟩, Fc.kp⟩
  obtain ⟨n, h⟩ := x
  obtain ⟨len, strip, int, _⟩ := nok h
  obtain ⟨tk, hF⟩ := F.str_FIGURES
  have hz := sizeLine_eq
  refine pb_ifno (pdt_cast (pdt_or (k := false) (l := false) (pdt_cast (pdt_not (pdt_chain op_lt op_lt ok_ib ok_ib pd_int (pd_lenS (z := (toString (n : Int) : Str)) (by omega) F.free_len (pd_var 0)) pd_int fun _ => rfl)) ?_) fun _ => pdt_cast (pdt_neS (pd_strip (x := (toString (n : Int) : Str)) (by omega) (pd_var 0) (pd_globS hF)) pd_str) ?_) rfl) (pb_ret (pd_intS int (by omega) F.free_int (pd_var 0)) ⟨rfl, rfl⟩)
  · rw [len]; rfl
  · rw [strip]; rfl
theorem an_ok (F : Fx P w K mg base) : Cal P w K mg base 1 (He.fAd K ("answer_of", none)) ["word"] (spP w T (fun x : Bool => [.str (saidS x)]) (fun x => .bl x)) := by
  obtain ⟨fd, Fc, hb⟩ := F.fn_answer_of
  refine ⟨⟨fd, LW.fn_ok Fc sc_an (fun x => [some (.str (saidS x))]) (fun x A outer s H E hr => ?_), hb⟩, Fc.kp⟩
  refine pb_ifno (pdt_cast (pdt_ninS (ns := ["yes", "no"]) (pd_var 0) (pd_tup (pdl_cons pd_str (pdl_1 pd_str)))) ?_) (pb_ret (pd_cast (pd_eqS (pd_var 0) pd_str) ?_) ⟨rfl, rfl⟩)
  · cases x <;> decide
  · cases x <;> rfl
theorem po_ok (F : Fx P w K mg base) : Cal P w K mg base 3 (He.fAd K ("point_of", none)) ["word", "many"] (spP w (Tb K) (fun x : WoA => [.str (wordOf x.pt), .int x.pt.length]) (fun x => ptD x.pt)) := by
  obtain ⟨fd, Fc, hb⟩ := F.fn_point_of
  refine ⟨⟨fd, LW.fn_ok Fc sc_po (fun x => [some (.str (wordOf x.pt)), some (.int x.pt.length), none]) (fun x A outer s H E hr => ?_), hb⟩, Fc.kp⟩
  have nd := sc_po.nd
  obtain ⟨pt, h0, h1, hbt⟩ := x
  obtain ⟨strip, bits, len, _, _⟩ := wok h0 h1 hbt
  have hz := sizeLine_eq
  have hlist : (wordOf pt).cps.toList.length = pt.length := by have := congrArg List.length bits; simpa using this
  have hsz : ∀ c ∈ (wordOf pt).cps.toList, PySem.intText? (⟨#[c]⟩ : Str) = some ((PySem.intText? (⟨#[c]⟩ : Str)).getD 0) := fun c hc => by
    have : PySem.intText? (⟨#[c]⟩ : Str) ∈ pt.map some := by rw [← bits]; exact List.mem_map.mpr ⟨c, hc, rfl⟩
    obtain ⟨b, _, e⟩ := List.mem_map.mp this
    rw [← e]; rfl
  refine pb_ifno (pdt_cast (pdt_neS (pd_strip (x := wordOf pt) (by omega) (pd_var 0) pd_str) pd_str) (by rw [strip]; rfl)) ?_
  refine pb_ret (pd_cC (⟨true, pt, hbt, by omega⟩ : CpA) (cp_ok F) (hr.mono (by decide)) F.glo_check_point (pdl_cons
    (pd_cast (pd_lc (own := [("sign", 2)]) (xs := (wordOf pt).cps.toList) (kp := fun _ => true) (enc := fun c => D.str ⟨#[c]⟩) (us := fun c => [.str ⟨#[c]⟩]) (ed := fun c => .int ((PySem.intText? (⟨#[c]⟩ : Str)).getD 0)) (pdi_str (pd_var 0)) nd (blkOk_by (by kernel_rfl)) (fun s H C cl fp => pg_name nd rfl (Or.inl rfl)) (tgt_name 2) (by decide) trivial ⟨rfl, fun _ => rfl⟩ (by omega)
      (fun p hp s H C cl fp => pdts_nil) fun c hc _ s H C cl fp => pd_intS (hsz c hc) (by show 1 ≤ 640; decide) F.free_int (pd_var 2)) (d' := .lst (pt.map D.int)) ?_) (pdl_1 (pd_var 1))) rfl) ⟨rfl, rfl⟩
  rw [filter_yes]
  have e : (wordOf pt).cps.toList.map (fun c => D.int ((PySem.intText? (⟨#[c]⟩ : Str)).getD 0)) = ((wordOf pt).cps.toList.map (fun c => PySem.intText? (⟨#[c]⟩ : Str))).map fun o => D.int (o.getD 0) := by rw [List.map_map]; rfl
  rw [e, bits, List.map_map]
  rfl
theorem fg_ok (F : Fx P w K mg base) : Cal P w K mg base 2 (He.fAd K ("figure_of", none)) ["text"] (spP w (Tb K) (fun x : FgA => [.str x.x]) (fun x => .int (figV x.x))) := by
  obtain ⟨fd, Fc, hb⟩ := F.fn_figure_of
  refine ⟨⟨fd, LW.fn_ok Fc sc_fg (fun x => [some (.str x.x), none, none]) (fun x A outer s H E hr => ?_), hb⟩, Fc.kp⟩
  have nd := sc_fg.nd
  obtain ⟨tb, hT⟩ := F.tb_figure_of
  have gk := gk_of (P := P) (w := w) (H := H) (E := E) (outer := outer) (s := s) tb hT hr nd
  obtain ⟨x, hx⟩ := x
  obtain ⟨t1, hB⟩ := F.int_BASE
  obtain ⟨t2, hW⟩ := F.int_WIDE
  have hxl : x.cps.toList.length ≤ 1000 := by have : x.length = x.cps.toList.length := by simp [Str.length]
                                              omega
  refine pb_ret (pd_add (pd_mul (.inr ⟨by decide, by decide⟩) (pd_mod (by decide) (pd_sumOrd F.free_sum F.free_map F.free_ord (pd_var 0)) (pd_globI hW)) (pd_globI hB)) (pd_mod (by decide) (pd_sum (k := 0) (own := [("place", 1), ("sign", 2)]) (xs := List.range x.cps.toList.length) (kp := fun _ => true) (en := figE x) (enc := fun i => .tup [.int (i : Nat), .str ⟨#[x.cps.toList.getD i 0]⟩]) (us := fun i => [.int (i : Nat), .str ⟨#[x.cps.toList.getD i 0]⟩]) gk F.free_sum
    (pdi_enum SV.str F.free_enumerate (pd_var 0)) (genB_by (by kernel_rfl)) (fun Ag s H C cl code fp pn hr => pg_tup rfl (pgs_cons (pg_name nd (i := 1) rfl (Or.inl rfl) (.inr rfl)) (pgs_cons (pg_name nd (i := 2) rfl (Or.inl rfl) (.inr rfl)) pgs_nil))) (tgt_tup [1, 2]) (by decide) SV.str ⟨enum_gen (fun c => D.str ⟨#[c]⟩) 0 x.cps.toList, fun _ => rfl⟩
    (fun p hp Ag s H C cl code fp pn hr => pdts_nil) fun p hp _ Ag s H C cl code fp pn hr => pd_mul (i := (p : Int) + 1) (.inl ?_) (pd_add (pd_var 1) pd_int) (pd_ord (x := ⟨#[x.cps.toList.getD p 0]⟩) rfl F.free_ord (pd_var 2))) (pd_globI hB))) ⟨rfl, rfl⟩
  rw [List.mem_range] at hp
  constructor <;> omega
end
end H66

set_option Elab.async false
set_option linter.all false
set_option maxRecDepth 100000
set_option maxHeartbeats 4000000
/-! Desk: __init__, places, here, in_order, smallest, begin. -/
namespace BO
open PySem PySem.Spec PyProof.Rows L2 LW
structure DS where
  q : Addr
  qe : Addr
  qc : Addr
  qt : Addr
  qo : Addr
  many : Nat
  ex : List Ex
  t : Told
  o : Ones
  tx : Str
  ln : Nat
def DS.f (S : DS) : List (Str × D) := [("many", .int (S.many : Nat)), ("examples", .ref S.qe), ("counts", .ref S.qc), ("text", .str S.tx), ("lines", .int (S.ln : Nat))]
def DS.m (CD CC : Addr) (S : DS) : Mem := [some (S.q, .obj CD S.f), some (S.qe, .dic (S.ex.map exK)), some (S.qc, .obj CC (cntF S.many S.qt S.qo)), some (S.qt, .dic (tD D.bl S.t)), some (S.qo, .dic (tD onK S.o))]
structure DOk (S : DS) : Prop where
  g : Good S.many S.ex
  c : CntOk S.many S.ex S.t S.o
  m0 : 0 < S.many
  m1 : S.many ≤ 6
  l1 : S.ex.length ≤ S.ln
  ln : S.ln ≤ 14
  l2 : S.t.length ≤ S.ln
  l3 : S.o.length ≤ 10 * S.ln
  l4 : S.tx.length ≤ 200 * S.ln
def frF (qe : Addr) : List (Str × D) := [("many", .non), ("examples", .ref qe), ("counts", .non), ("text", .str ""), ("lines", .int ((0 : Nat) : Int))]
def frM (CD : Addr) (q qe : Addr) : Mem := [some (q, .obj CD (frF qe)), some (qe, .dic [])]
abbrev srtX (E : List Ex) : List Ex := srtE exD E
theorem Good.perm {many : Nat} {E E' : List Ex} (g : Good many E) (h : E'.Perm E) : Good many E' :=
  ⟨fun e he => g.len e (h.mem_iff.mp he), fun e he => g.bit e (h.mem_iff.mp he), (h.map (·.1)).nodup_iff.mpr g.nd⟩
theorem srtX_len (E : List Ex) : (srtX E).length = E.length := (srtE_perm exD E).length_eq
theorem DOk.root {S : DS} (h : DOk S) (flat : Bool) : Root flat S.many (srtX S.ex) := ⟨h.g.perm (srtE_perm exD S.ex), srtE_sorted exD S.ex, by rw [srtX_len]; have := h.l1; have := h.ln; omega, by have := h.m1; omega⟩
def DS.tree (S : DS) (flat : Bool) : Tr := grw flat S.many (srtX S.ex)
theorem DOk.lt {S : DS} (h : DOk S) (flat : Bool) : (S.tree flat).lt S.many := grw_lt flat S.many _ _ (Nat.le_refl _)
theorem DOk.cnt {S : DS} (h : DOk S) (flat : Bool) : (S.tree flat).cnt ≤ 14 := by
  have h1 := grw_cnt flat S.many _ (srtX S.ex) (Nat.le_refl _)
  rw [srtX_len] at h1
  have := h.l1
  have := h.ln
  unfold DS.tree
  omega
theorem DOk.dep {S : DS} (h : DOk S) (flat : Bool) : (S.tree flat).dep ≤ 14 := by
  have h1 := grw_dep flat S.many (srtX S.ex)
  rw [srtX_len] at h1
  have := h.l1
  have := h.ln
  unfold DS.tree
  omega
structure DA where
  S : DS
  h : DOk S
structure DwA extends DA where
  pt : Pt
  hl : pt.length = S.many
  hb : ∀ b ∈ pt, b = 0 ∨ b = 1
structure FrA where
  q : Addr
  qe : Addr
structure BgA extends FrA where
  n : Nat
  h0 : 0 < n
  h1 : n ≤ 6
def newS (q qe qc qt qo : Addr) (n : Nat) (ln : Nat) (tx : Str) : DS := ⟨q, qe, qc, qt, qo, n, [], [], [], tx, ln⟩
end BO
namespace H66
open PySem PySem.Spec PyProof.Rows L2 LW BO
theorem sc_Di : FnScope ["self"] ["self"] (defScope s_Desk_init) := ⟨rfl, rfl, rfl, by decide +kernel, rfl, by decide +kernel, by decide +kernel⟩
theorem sc_Dp : FnScope ["self"] ["self"] (defScope s_Desk_places) := ⟨rfl, rfl, rfl, by decide +kernel, rfl, by decide +kernel, by decide +kernel⟩
theorem sc_Dh : FnScope ["self", "word"] ["self", "word"] (defScope s_Desk_here) := ⟨rfl, rfl, rfl, by decide +kernel, rfl, by decide +kernel, by decide +kernel⟩
theorem sc_Do : FnScope ["self"] ["self"] (defScope s_Desk_in_order) := ⟨rfl, rfl, rfl, by decide +kernel, rfl, by decide +kernel, by decide +kernel⟩
theorem sc_Ds : FnScope ["self"] ["self"] (defScope s_Desk_smallest) := ⟨rfl, rfl, rfl, by decide +kernel, rfl, by decide +kernel, by decide +kernel⟩
theorem sc_Db : FnScope ["self", "many"] ["self", "many"] (defScope s_Desk_begin) := ⟨rfl, rfl, rfl, by decide +kernel, rfl, by decide +kernel, by decide +kernel⟩
abbrev deskM (K : PySem.W.Frag) (S : DS) : Mem := S.m (He.ga K "Desk") (He.ga K "Counts")
section
variable {P : Program} {w : World} {K : PySem.W.Frag} {mg : Str → Option Value} {base : Heap} {T : List Addr}
theorem Di_ok (F : Fx P w K mg base) : Cal P w K mg base 1 (He.fAd K ("Desk", some "__init__")) ["self"] (spC w T (fun q : Addr => [.ref q]) (fun q => [some (q, .obj (He.ga K "Desk") [])]) (fun q d m => d = .non ∧ ∃ qe, m = frM (He.ga K "Desk") q qe)) := by
  obtain ⟨fd, Fc, hb⟩ := F.fn_Desk_init
  refine ⟨⟨fd, LW.fn_ok Fc sc_Di (fun q => [some (.ref q)]) (fun q A outer s H E hr => ?_), hb⟩, Fc.kp⟩
  refine pb_fld 0 pd_non (fun _ => pd_var 0) F.cls_Desk F.noat_Desk_many ?_
  refine pb_seq (Nx1 := fun ρ' m => ρ' = [some (.ref q)] ∧ ∃ qe, m = [some (q, .obj (He.ga K "Desk") [("many", .non), ("examples", .ref qe)]), some (qe, .dic [])]) (pb1_fldR (j := 0) pdr_dnew (fun _ => pd_var 0) F.cls_Desk F.noat_Desk_examples fun d m ⟨qt, e1, e2⟩ => by
    subst e1 e2
    exact ⟨[("many", .non)], rfl, Nat.le_of_ble_eq_true rfl, rfl, qt, rfl⟩) fun ρ' m ⟨e1, qt, e2⟩ => ?_
  subst e1 e2
  refine pb_fld 0 pd_non (fun _ => pd_var 0) F.cls_Desk F.noat_Desk_counts ?_
  refine pb_fld 0 pd_str (fun _ => pd_var 0) F.cls_Desk F.noat_Desk_text ?_
  exact pb_fld 0 pd_int (fun _ => pd_var 0) F.cls_Desk F.noat_Desk_lines (pb_nil ⟨rfl, qt, rfl⟩)
theorem Dp_ok (F : Fx P w K mg base) : Cal P w K mg base 1 (He.fAd K ("Desk", some "places")) ["self"] (spC w T (fun x : DA => [.ref x.S.q]) (fun x => deskM K x.S) (fun x d m => d = .int (x.S.many : Nat) ∧ m = deskM K x.S)) := by
  obtain ⟨fd, Fc, hb⟩ := F.fn_Desk_places
  refine ⟨⟨fd, LW.fn_ok Fc sc_Dp (fun x => [some (.ref x.S.q)]) (fun x A outer s H E hr => ?_), hb⟩, Fc.kp⟩
  obtain ⟨S, h⟩ := x
  exact pb_ifno (pdt_cast (pdt_isN (pd_fld (d := .int (S.many : Nat)) (OV.own (fs := S.f) 0) F.cls_Desk F.noat_Desk_many (pd_var 0))) rfl) (pb_ret (pd_fld (OV.own (fs := S.f) 0) F.cls_Desk F.noat_Desk_many (pd_var 0)) ⟨rfl, rfl⟩)
/-- self.places() -/
theorem pd_places {X : Cx} {ρ : List (Option D)} {e : Expr} {S : DS} {pos apos : Pos} {pl : Sem Bool} (F : Fx X.prog X.w X.K X.mg X.base) (h : DOk S) (hr : Room 1 X.A) (ho : PD X T ρ (deskM X.K S) e (.ref S.q) (deskM X.K S))
    (ht : eval (.Call (.Attribute e "places" apos) [] [] pos) X.env = (do
      let ov ← eval e X.env
      standAt apos.atName
      let (f, first) ← holding [ov] (getMethod ov "places" pl)
      callWith pos f first (backTo pos (starEach [] X.env)) (backToKw pos (keywordEach [] X.env))) := by rfl) : PD X T ρ (deskM X.K S) (.Call (.Attribute e "places" apos) [] [] pos) (.int (S.many : Nat)) (deskM X.K S) :=
  pd_ofR (pdr_mC0 (⟨S, h⟩ : DA) (Dp_ok F) hr F.cls_Desk F.meth_Desk_places ho (OV.own (fs := S.f) 0) rfl Fram.all rfl ht) fun d m ⟨m', e1, e2, e3⟩ => ⟨e2, e1.trans e3⟩
theorem Dh_ok (F : Fx P w K mg base) : Cal P w K mg base 4 (He.fAd K ("Desk", some "here")) ["self", "word"] (spC w (Tb K) (fun x : DwA => [.ref x.S.q, .str (wordOf x.pt)]) (fun x => deskM K x.S) (fun x d m => d = ptD x.pt ∧ m = deskM K x.S)) := by
  obtain ⟨fd, Fc, hb⟩ := F.fn_Desk_here
  refine ⟨⟨fd, LW.fn_ok Fc sc_Dh (fun x => [some (.ref x.S.q), some (.str (wordOf x.pt))]) (fun x A outer s H E hr => ?_), hb⟩, Fc.kp⟩
  obtain ⟨⟨S, h⟩, pt, hl, hbt⟩ := x
  have hl : pt.length = S.many := hl
  exact pb_ret (pd_cC (⟨pt, by rw [hl]; exact h.m0, by rw [hl]; exact h.m1, hbt⟩ : WoA) (po_ok F) hr F.glo_point_of (pdl_cons (pd_var 1) (pdl_1 (pd_places F h (hr.mono (by decide)) (pd_var 0)))) (by show [D.str (wordOf pt), D.int (pt.length : Nat)] = [D.str (wordOf pt), D.int (S.many : Nat)]; rw [hl])) ⟨rfl, rfl⟩
theorem Do_ok (F : Fx P w K mg base) : Cal P w K mg base 2 (He.fAd K ("Desk", some "in_order")) ["self"] (spC w T (fun x : DA => [.ref x.S.q]) (fun x => deskM K x.S) (fun x d m => d = .lst ((srtX x.S.ex).map exD) ∧ m = deskM K x.S)) := by
  obtain ⟨fd, Fc, hb⟩ := F.fn_Desk_in_order
  refine ⟨⟨fd, LW.fn_ok Fc sc_Do (fun x => [some (.ref x.S.q)]) (fun x A outer s H E hr => ?_), hb⟩, Fc.kp⟩
  obtain ⟨S, h⟩ := x
  have hz := sizeLine_eq
  refine pb_expr (pd_places F h hr (pd_var 0)) (pb_ret (pd_cast (pd_sortItems (kvs := S.ex.map exK) (DV.own 1) (by rw [prD_exK]; exact srt_ex (by have := h.l1; have := h.ln; omega)) (un_of hr (by decide)) F.free_sorted (pd_fld (OV.own (fs := S.f) 0) F.cls_Desk F.noat_Desk_examples (pd_var 0))) (by rw [prD_exK, sort_ex])) ⟨rfl, rfl⟩)
theorem pd_inOrder {X : Cx} {ρ : List (Option D)} {e : Expr} {S : DS} {pos apos : Pos} {pl : Sem Bool} (F : Fx X.prog X.w X.K X.mg X.base) (h : DOk S) (hr : Room 2 X.A) (ho : PD X T ρ (deskM X.K S) e (.ref S.q) (deskM X.K S))
    (ht : eval (.Call (.Attribute e "in_order" apos) [] [] pos) X.env = (do
      let ov ← eval e X.env
      standAt apos.atName
      let (f, first) ← holding [ov] (getMethod ov "in_order" pl)
      callWith pos f first (backTo pos (starEach [] X.env)) (backToKw pos (keywordEach [] X.env))) := by rfl) : PD X T ρ (deskM X.K S) (.Call (.Attribute e "in_order" apos) [] [] pos) (.lst ((srtX S.ex).map exD)) (deskM X.K S) :=
  pd_ofR (pdr_mC0 (⟨S, h⟩ : DA) (Do_ok F) hr F.cls_Desk F.meth_Desk_in_order ho (OV.own (fs := S.f) 0) rfl Fram.all rfl ht) fun d m ⟨m', e1, e2, e3⟩ => ⟨e2, e1.trans e3⟩
theorem Ds_ok (F : Fx P w K mg base) : Cal P w K mg base 20 (He.fAd K ("Desk", some "smallest")) ["self"] (spC w (Tb K) (fun x : DA => [.ref x.S.q]) (fun x => deskM K x.S) (fun x d m => d = trD (x.S.tree false) ∧ m = deskM K x.S)) := by
  obtain ⟨fd, Fc, hb⟩ := F.fn_Desk_smallest
  refine ⟨⟨fd, LW.fn_ok Fc sc_Ds (fun x => [some (.ref x.S.q)]) (fun x A outer s H E hr => ?_), hb⟩, Fc.kp⟩
  obtain ⟨S, h⟩ := x
  exact pb_ret (pd_cD (⟨false, S.many, srtX S.ex, h.root false⟩ : BeA) (be_ok F) hr F.glo_best (Dfl.bl false) (pdl_cons (pd_inOrder F h (hr.mono (by decide)) (pd_var 0)) (pdl_1 (pd_places F h (hr.mono (by decide)) (pd_var 0)))) rfl) ⟨rfl, rfl⟩
theorem pd_smallest {X : Cx} {ρ : List (Option D)} {e : Expr} {S : DS} {pos apos : Pos} {pl : Sem Bool} (F : Fx X.prog X.w X.K X.mg X.base) (h : DOk S) (hr : Room 20 X.A) (ho : PD X (Tb X.K) ρ (deskM X.K S) e (.ref S.q) (deskM X.K S))
    (ht : eval (.Call (.Attribute e "smallest" apos) [] [] pos) X.env = (do
      let ov ← eval e X.env
      standAt apos.atName
      let (f, first) ← holding [ov] (getMethod ov "smallest" pl)
      callWith pos f first (backTo pos (starEach [] X.env)) (backToKw pos (keywordEach [] X.env))) := by rfl) : PD X (Tb X.K) ρ (deskM X.K S) (.Call (.Attribute e "smallest" apos) [] [] pos) (trD (S.tree false)) (deskM X.K S) :=
  pd_ofR (pdr_mC0 (⟨S, h⟩ : DA) (Ds_ok F) hr F.cls_Desk F.meth_Desk_smallest ho (OV.own (fs := S.f) 0) rfl Fram.all rfl ht) fun d m ⟨m', e1, e2, e3⟩ => ⟨e2, e1.trans e3⟩
theorem Db_ok (F : Fx P w K mg base) : Cal P w K mg base 3 (He.fAd K ("Desk", some "begin")) ["self", "many"] (spC w T (fun x : BgA => [.ref x.q, .int (x.n : Nat)]) (fun x => frM (He.ga K "Desk") x.q x.qe) (fun x d m => d = .non ∧ ∃ qe qc qt qo, m = deskM K (newS x.q qe qc qt qo x.n 0 ""))) := by
  obtain ⟨fd, Fc, hb⟩ := F.fn_Desk_begin
  refine ⟨⟨fd, LW.fn_ok Fc sc_Db (fun x => [some (.ref x.q), some (.int (x.n : Nat))]) (fun x A outer s H E hr => ?_), hb⟩, Fc.kp⟩
  obtain ⟨⟨q, qe⟩, n, h0, h1⟩ := x
  have h1 : n ≤ 6 := h1
  refine pb_ifno (pdt_cast (pdt_gt (i := (n : Nat)) (j := 8) (pd_var 1) pd_int) (decide_eq_false (by omega))) ?_
  refine pb_fld3 (j := 0) (q := q) (pdr_tup (RL := fun ds m => ∃ q2 qc qt qo, ds = [.int (n : Nat), .ref q2, .ref qc] ∧ m = frM (He.ga K "Desk") q qe ++ [some (q2, .dic [])] ++ cntM (He.ga K "Counts") qc qt qo n [] [])
    (pdlr_cons (pdr_of (pd_var (d := .int (n : Nat)) (M := frM (He.ga K "Desk") q qe) 1)) fun d m ⟨e1, e2⟩ => by
      subst e1 e2
      exact pdlr_cons pdr_dnew fun d m ⟨q2, e1, e2⟩ => by
        subst e1 e2
        exact pdlr_cons (pdr_makeC (fun qc => (⟨qc, n⟩ : CnI)) (Ci_ok F) F.mkr_Counts hr F.glo_Counts (pdl_1 (pd_var 1)) (fun _ => rfl) (fun _ => rfl) fun q d m h => h.1) fun d m ⟨qc, m', e1, e2, _, qt, qo, e3⟩ => by
          subst e1 e2 e3
          exact pdlr_nil ⟨q2, qc, qt, qo, rfl, rfl⟩) fun ds m ⟨_, _, _, _, e, _⟩ => by rw [e]; exact Nat.le_of_ble_eq_true rfl)
    (fun _ => pd_var 0) (fun _ => pd_var 0) (fun _ => pd_var 0) F.cls_Desk F.noat_Desk_many F.noat_Desk_examples F.noat_Desk_counts fun d m ⟨ds, e0, q2, qc, qt, qo, e1, e2⟩ => ⟨.int (n : Nat), .ref q2, .ref qc, frF qe, by rw [e0, e1], by rw [e2]; rfl, Nat.le_of_ble_eq_true rfl, ?_⟩
  subst e2
  exact pb_drop (deskM K (newS q q2 qc qt qo n 0 "")) [some (qe, .dic [])] (List.Perm.cons _ (List.perm_append_comm (l₁ := [some (qe, Ob.dic [])]))) (pb_nil ⟨rfl, q2, qc, qt, qo, rfl⟩)
end
end H66

set_option Elab.async false
set_option linter.all false
set_option maxRecDepth 100000
set_option maxHeartbeats 4000000
/-! Desk: see, drop, written. -/
namespace BO
open PySem PySem.Spec PyProof.Rows L2 LW
structure SeA extends DwA where
  a : Bool
  hn : pt ∉ S.ex.map (·.1)
structure DrA extends DwA where
  a : Bool
  he : (pt, a) ∈ S.ex
structure WrA where
  S : DS
  k2 : S.ln ≤ 14
  k4 : S.tx.length ≤ 200 * S.ln
  ws : List Str
  ans : Str
  hw : ws.length ≤ 3
  hs : (ws.map (·.length)).sum ≤ 30
def DS.seen (S : DS) (pt : Pt) (a : Bool) : DS := { S with ex := S.ex ++ [(pt, a)], t := toldP S.t a 1, o := upO (· + ·) a pt S.many S.o }
def DS.left (S : DS) (pt : Pt) (a : Bool) : DS := { S with ex := dropE S.ex pt, t := toldP S.t a (-1), o := upO (· - ·) a pt S.many S.o }
def DS.wrote (S : DS) (tx : Str) : DS := { S with tx := tx, ln := S.ln + 1 }
def bodyW (S : DS) (ws : List Str) : Str := ((toString (S.ln : Int) : Str) ++ " ") ++ Txt.join " " ws
def txW (S : DS) (ws : List Str) : Str := S.tx ++ (((bodyW S ws ++ " ") ++ (toString (figV (bodyW S ws)) : Str)) ++ "\n")
def DS.seenW (S : DS) (pt : Pt) (a : Bool) : DS := (S.seen pt a).wrote (txW (S.seen pt a) [("see" : Str), wordOf pt, saidS a])
def DS.leftW (S : DS) (pt : Pt) (a : Bool) : DS := (S.left pt a).wrote (txW (S.left pt a) [("drop" : Str), wordOf pt])
theorem dget_ex_some {E : List Ex} (nd : (E.map (·.1)).Nodup) {pt : Pt} {a : Bool} (h : (pt, a) ∈ E) : dget (E.map exK) (ptD pt) = some (.bl a) := by
  rw [dget_ex]
  cases hf : E.find? fun e => decide (e.1 = pt) with
  | none => exact absurd (List.find?_eq_none.mp hf _ h) (by simp)
  | some e =>
    have h0 := List.find?_some hf
    have h1 : e.1 = pt := of_decide_eq_true h0
    have h2 := List.mem_of_find?_eq_some hf
    have : e = (pt, a) := by
      obtain ⟨i, hi⟩ := List.mem_iff_getElem?.mp h2
      obtain ⟨j, hj⟩ := List.mem_iff_getElem?.mp h
      have e1 : (E.map (·.1))[i]? = some pt := by rw [List.getElem?_map, hi, ← h1]; rfl
      have e2 : (E.map (·.1))[j]? = some pt := by rw [List.getElem?_map, hj]; rfl
      have hil := (List.getElem?_eq_some_iff.mp e1).1
      have := (List.getElem?_inj hil nd).mp (e1.trans e2.symm)
      subst this
      rw [hi] at hj
      exact Option.some.inj hj
    rw [this]
    rfl
theorem ddel_ex (E : List Ex) (pt : Pt) : ddel (E.map exK) (ptD pt) = (dropE E pt).map exK := by
  unfold ddel dropE
  rw [List.filter_map]
  congr 1
  refine List.filter_congr fun e _ => ?_
  show (!nkEq (ptD e.1) (ptD pt)) = _
  rw [nkEq_enc encK_pt]
theorem glue_len (sep : Str) : ∀ (ps : List Str) (acc : Array Nat), (ps.foldl (fun acc p => acc ++ sep.cps ++ p.cps) acc).size = acc.size + (ps.map (·.length)).sum + ps.length * sep.length
  | [], acc => by simp
  | p :: r, acc => by
    rw [List.foldl_cons, glue_len sep r, Array.size_append, Array.size_append, List.map_cons, List.sum_cons, List.length_cons, Nat.succ_mul]
    show acc.size + sep.length + p.length + _ + _ = _
    omega
theorem join_len (sep : Str) (ws : List Str) : (Txt.join sep ws).length ≤ (ws.map (·.length)).sum + ws.length * sep.length := by
  show ((ws.drop 1).foldl (fun acc p => acc ++ sep.cps ++ p.cps) (ws.headD Str.empty).cps).size ≤ _
  cases ws with
  | nil => exact Nat.zero_le _
  | cons a r =>
    rw [List.drop_one, List.tail_cons, glue_len, List.map_cons, List.sum_cons, List.length_cons, Nat.succ_mul]
    show a.length + _ + _ ≤ _
    omega
theorem num_len {i : Int} (h0 : 0 ≤ i) {k : Nat} (hk : 0 < k) (h : i < 10 ^ k) : ((toString i : Str)).length ≤ k := toString_length_le h0 hk h
theorem log_small {i : Int} (h0 : 0 ≤ i) (h : i < 10 ^ 18) : i.natAbs.log2 < 1920 := by
  by_cases z : i.natAbs = 0
  · rw [z]; decide
  · rw [Nat.log2_lt z]
    have h1 : i.natAbs < 10 ^ 18 := by
      have e : (10 : Int) ^ 18 = 1000000000000000000 := by decide
      rw [e] at h
      omega
    exact Nat.lt_of_lt_of_le h1 (Nat.le_trans (by decide : 10 ^ 18 ≤ 2 ^ 60) (Nat.pow_le_pow_right (by decide) (by decide)))
theorem txW_len {S : DS} {ws : List Str} (k2 : S.ln ≤ 14) (hw : ws.length ≤ 3) (hs : (ws.map (·.length)).sum ≤ 30) : (txW S ws).length ≤ S.tx.length + 200 := by
  have e2 : (10 : Int) ^ 2 = 100 := by decide
  have l1 : ((toString (S.ln : Int) : Str)).length ≤ 2 := num_len (by omega) (by decide) (by rw [e2]; omega)
  have l2 := join_len " " ws
  have l3 : (" " : Str).length = 1 := by decide
  have l4 : ("\n" : Str).length = 1 := by decide
  rw [l3] at l2
  have hlb : (bodyW S ws).length ≤ 40 := by unfold bodyW; rw [app_len, app_len, l3]; omega
  obtain ⟨f0, f1⟩ := figV_pos (bodyW S ws)
  have l5 : ((toString (figV (bodyW S ws)) : Str)).length ≤ 11 := num_len f0 (by decide) f1
  unfold txW
  rw [app_len, app_len, app_len, app_len, l3, l4]
  omega
end BO
namespace H66
open PySem PySem.Spec PyProof.Rows L2 LW BO
theorem sc_Se : FnScope ["self", "point", "answer", "guess"] ["self", "point", "answer"] (defScope s_Desk_see) := ⟨rfl, rfl, rfl, by decide +kernel, rfl, by decide +kernel, by decide +kernel⟩
theorem sc_Dr : FnScope ["self", "point"] ["self", "point"] (defScope s_Desk_drop) := ⟨rfl, rfl, rfl, by decide +kernel, rfl, by decide +kernel, by decide +kernel⟩
theorem sc_Wr : FnScope ["self", "words", "answer", "body"] ["self", "words", "answer"] (defScope s_Desk_written) := ⟨rfl, rfl, rfl, by decide +kernel, rfl, by decide +kernel, by decide +kernel⟩
section
variable {P : Program} {w : World} {K : PySem.W.Frag} {mg : Str → Option Value} {base : Heap} {T : List Addr}
theorem Se_ok (F : Fx P w K mg base) : Cal P w K mg base 21 (He.fAd K ("Desk", some "see")) ["self", "point", "answer"] (spC w (Tb K) (fun x : SeA => [.ref x.S.q, ptD x.pt, .bl x.a]) (fun x => deskM K x.S) (fun x d m => d = .str (saidS ((x.S.tree false).has x.pt)) ∧ m = deskM K (x.S.seen x.pt x.a))) := by
  obtain ⟨fd, Fc, hb⟩ := F.fn_Desk_see
  refine ⟨⟨fd, LW.fn_ok Fc sc_Se (fun x => [some (.ref x.S.q), some (ptD x.pt), some (.bl x.a), none]) (fun x A outer s H E hr => ?_), hb⟩, Fc.kp⟩
  have nd := sc_Se.nd
  obtain ⟨⟨⟨S, h⟩, pt, hl, hbt⟩, a, hn⟩ := x
  have hl : pt.length = S.many := hl
  have hn : pt ∉ S.ex.map (·.1) := hn
  have hz := sizeLine_eq
  have k1 := h.l1
  have k2 := h.ln
  refine pb_ifno (pdt_cast (pdt_neB (p := a) (q := a) (pd_cast (pd_dget2 (kvs := S.ex.map exK) (dk := ptD pt) (db := .bl a) dk_t (un_of hr (by decide)) (DV.own (M := deskM K S) 1) (DV.own (M := deskM K S) 1) (tKey_exK _) (tKey_pt _) (pd_fld (OV.own (fs := S.f) 0) F.cls_Desk F.noat_Desk_examples (pd_var 0)) (pd_var 1) (pd_var 2)) (by rw [dget_ex_none hn]; rfl)) (pd_var 2)) (by simp)) ?_
  refine pb_set (d := .str (saidS ((S.tree false).has pt))) (M1 := deskM K S) 3 (pd_cC ((S.tree false).has pt) (said_ok F) (hr.mono (by decide)) F.glo_said (pdl_1 (pd_cC (⟨S.tree false, pt, hbt, by rw [hl]; exact h.lt false⟩ : HasA) (has_ok F) (hr.mono (by decide)) F.glo_has (pdl_cons (pd_smallest F h hr (pd_var 0)) (pdl_1 (pd_var 1))) rfl)) rfl) nd ?_
  refine pb_if (k := true) (Nx1 := fun ρ' m => ρ' = [some (.ref S.q), some (ptD pt), some (.bl a), some (.str (saidS ((S.tree false).has pt)))] ∧ m = deskM K (S.seen pt a))
    (pdt_cast (pdt_dnin (kvs := S.ex.map exK) (da := ptD pt) dk_t (un_of hr (by decide)) (DV.own (M := deskM K S) 1) (tKey_exK _) (tKey_pt _) (pd_var 1) (pd_fld (OV.own (fs := S.f) 0) F.cls_Desk F.noat_Desk_examples (pd_var 0))) (by rw [dget_ex_none hn]; rfl)) (fun _ => ?_) (fun h => by cases h) fun ρ' m ⟨e1, e2⟩ => by
      subst e1 e2
      exact pb_ret (pd_var 3) ⟨rfl, rfl⟩
  refine pb_dput (kvs := S.ex.map exK) (dk := ptD pt) (dv := .bl a) (q := S.qe) 1 dk_t (un_of hr (by decide)) (pd_var 2) (pd_fld (OV.own (fs := S.f) 0) F.cls_Desk F.noat_Desk_examples (pd_var 0)) (pd_var 1) rfl (tKey_exK _) (tKey_pt _) (by rw [List.length_map]; omega) ?_
  rw [dput_new (dget_ex_none hn)]
  refine pb_one (pb1_expr (pdr_mC (⟨S.qc, S.qt, S.qo, S.many, S.t, S.o, pt, a, hbt, hl, by have := h.m1; omega, by have := h.l2; omega, by have := h.l3; omega⟩ : CnA) (Cp_ok F) (hr.mono (by decide)) F.cls_Counts F.meth_Counts_put (pd_fld (d := .ref S.qc) (OV.own (fs := S.f) 0) F.cls_Desk F.noat_Desk_counts (pd_var 0)) (OV.own (fs := cntF S.many S.qt S.qo) 2) (pdl_cons (pd_var 1) (pdl_1 (pd_var 2))) rfl
    (Fram.suffix [some (S.q, .obj (He.ga K "Desk") S.f), some (S.qe, .dic (S.ex.map exK ++ [((ptD pt, D.bl a) : D × D)]))] (cntM (He.ga K "Counts") S.qc S.qt S.qo S.many S.t S.o))) fun d m ⟨m', e1, _, e3⟩ => ⟨rfl, ?_⟩)
  rw [e1, e3]
  show _ = [some (S.q, Ob.obj (He.ga K "Desk") S.f), some (S.qe, .dic ((S.ex ++ [(pt, a)]).map exK))] ++ cntM (He.ga K "Counts") S.qc S.qt S.qo S.many (toldP S.t a 1) (upO (· + ·) a pt S.many S.o)
  rw [List.map_append]
  rfl
theorem Dr_ok (F : Fx P w K mg base) : Cal P w K mg base 4 (He.fAd K ("Desk", some "drop")) ["self", "point"] (spC w (Tb K) (fun x : DrA => [.ref x.S.q, ptD x.pt]) (fun x => deskM K x.S) (fun x d m => d = .non ∧ m = deskM K (x.S.left x.pt x.a))) := by
  obtain ⟨fd, Fc, hb⟩ := F.fn_Desk_drop
  refine ⟨⟨fd, LW.fn_ok Fc sc_Dr (fun x => [some (.ref x.S.q), some (ptD x.pt)]) (fun x A outer s H E hr => ?_), hb⟩, Fc.kp⟩
  obtain ⟨⟨⟨S, h⟩, pt, hl, hbt⟩, a, he⟩ := x
  have hl : pt.length = S.many := hl
  have he : (pt, a) ∈ S.ex := he
  have k1 := h.l1
  have k2 := h.ln
  have hg := dget_ex_some h.g.nd he
  obtain ⟨c0, c1⟩ := h.c.can h.g he
  refine pb_ifno (pdt_cast (pdt_dnin (kvs := S.ex.map exK) (da := ptD pt) dk_t (un_of hr (by decide)) (DV.own (M := deskM K S) 1) (tKey_exK _) (tKey_pt _) (pd_var 1) (pd_fld (OV.own (fs := S.f) 0) F.cls_Desk F.noat_Desk_examples (pd_var 0))) (by rw [hg]; rfl)) ?_
  refine pb_seq (Nx1 := fun ρ' m => ρ' = [some (.ref S.q), some (ptD pt)] ∧ m = [some (S.q, .obj (He.ga K "Desk") S.f), some (S.qe, .dic (S.ex.map exK))] ++ cntM (He.ga K "Counts") S.qc S.qt S.qo S.many (toldP S.t a (-1)) (upO (· - ·) a pt S.many S.o))
    (pb1_expr (pdr_mC (⟨⟨S.qc, S.qt, S.qo, S.many, S.t, S.o, pt, a, hbt, hl, by have := h.m1; omega, by have := h.l2; omega, by have := h.l3; omega⟩, c0, c1, h.c.tp _ he, h.c.op _ he⟩ : CtA) (Ct_ok F) hr F.cls_Counts F.meth_Counts_take (pd_fld (d := .ref S.qc) (OV.own (fs := S.f) 0) F.cls_Desk F.noat_Desk_counts (pd_var 0)) (OV.own (fs := cntF S.many S.qt S.qo) 2)
      (pdl_cons (pd_var 1) (pdl_1 (pd_dsub (kvs := S.ex.map exK) (dk := ptD pt) (d := .bl a) dk_t (un_of hr (by decide)) (DV.own (M := deskM K S) 1) (tKey_exK _) (tKey_pt _) hg (pd_fld (OV.own (fs := S.f) 0) F.cls_Desk F.noat_Desk_examples (pd_var 0)) (pd_var 1)))) rfl
      (Fram.suffix [some (S.q, .obj (He.ga K "Desk") S.f), some (S.qe, .dic (S.ex.map exK))] (cntM (He.ga K "Counts") S.qc S.qt S.qo S.many S.t S.o))) fun d m ⟨m', e1, _, e3⟩ => ⟨rfl, by rw [e1, e3]; rfl⟩) fun ρ' m ⟨e1, e2⟩ => ?_
  subst e1 e2
  refine pb_ddel (kvs := S.ex.map exK) (dk := ptD pt) (q := S.qe) 1 dk_t (un_of hr (by decide)) (pd_fld (OV.own (fs := S.f) 0) F.cls_Desk F.noat_Desk_examples (pd_var 0)) (pd_var 1) rfl (tKey_exK _) (tKey_pt _) (by rw [hg]; rfl) (pb_nil ⟨rfl, ?_⟩)
  rw [ddel_ex]
  rfl
theorem Wr_ok (F : Fx P w K mg base) : Cal P w K mg base 3 (He.fAd K ("Desk", some "written")) ["self", "words", "answer"] (spC w (Tb K) (fun x : WrA => [.ref x.S.q, .lst (x.ws.map D.str), .str x.ans]) (fun x => deskM K x.S) (fun x d m => d = .str x.ans ∧ m = deskM K (x.S.wrote (txW x.S x.ws)))) := by
  obtain ⟨fd, Fc, hb⟩ := F.fn_Desk_written
  refine ⟨⟨fd, LW.fn_ok Fc sc_Wr (fun x => [some (.ref x.S.q), some (.lst (x.ws.map D.str)), some (.str x.ans), none]) (fun x A outer s H E hr => ?_), hb⟩, Fc.kp⟩
  have nd := sc_Wr.nd
  obtain ⟨S, k2, k4, ws, ans, hw, hs⟩ := x
  have k2 : S.ln ≤ 14 := k2
  have k4 : S.tx.length ≤ 200 * S.ln := k4
  have hz := sizeLine_eq
  have e2 : (10 : Int) ^ 2 = 100 := by decide
  have e18 : (10 : Int) ^ 18 = 1000000000000000000 := by decide
  have l1 : ((toString (S.ln : Int) : Str)).length ≤ 2 := num_len (by omega) (by decide) (by rw [e2]; omega)
  have l2 := join_len " " ws
  have l3 : (" " : Str).length = 1 := by decide
  have l4 : ("\n" : Str).length = 1 := by decide
  rw [l3] at l2
  have hlb : (((toString (S.ln : Int) : Str) ++ " ") ++ Txt.join " " ws).length ≤ 40 := by rw [app_len, app_len, l3]; omega
  obtain ⟨f0, f1⟩ := figV_pos (((toString (S.ln : Int) : Str) ++ " ") ++ Txt.join " " ws)
  have l5 : ((toString (figV (((toString (S.ln : Int) : Str) ++ " ") ++ Txt.join " " ws)) : Str)).length ≤ 11 := num_len f0 (by decide) f1
  refine pb_set (d := .str (((toString (S.ln : Int) : Str) ++ " ") ++ Txt.join " " ws)) (M1 := deskM K S) 3 (pd_addS (by rw [app_len, l3]; omega) (pd_addS (by omega) (pd_strI (i := (S.ln : Nat)) (log_small (by omega) (by rw [e18]; omega)) F.free_str (pd_fld (OV.own (fs := S.f) 0) F.cls_Desk F.noat_Desk_lines (pd_var 0))) pd_str) (pd_join LV.dat (by rw [l3]; omega) pd_str (pd_var 1))) nd ?_
  generalize hbd : ((toString (S.ln : Int) : Str) ++ " ") ++ Txt.join " " ws = bd at *
  refine pb_fldaug (fs := S.f) (q := S.q) (C := He.ga K "Desk") (dc := .str (S.tx ++ (((bd ++ " ") ++ (toString (figV bd) : Str)) ++ "\n"))) 0 (pd_var 0) rfl rfl
    (pd_addS (by rw [app_len, app_len, l3, l4]; omega) (pd_addS (by rw [app_len, l3]; omega) (pd_addS (by omega) (pd_var 3) pd_str) (pd_strI (log_small f0 (Int.lt_of_lt_of_le f1 (by decide))) F.free_str (pd_cC (⟨bd, by omega⟩ : FgA) (fg_ok F) hr F.glo_figure_of (pdl_1 (pd_var 3)) rfl))) pd_str) iop_add_str (ok_iaddS (by rw [app_len, app_len, app_len, l3, l4]; omega)) F.cls_Desk F.noat_Desk_text (Nat.le_of_ble_eq_true rfl) ?_
  refine pb_fldaug (fs := putD "text" (.str (S.tx ++ (((bd ++ " ") ++ (toString (figV bd) : Str)) ++ "\n"))) S.f) (q := S.q) (C := He.ga K "Desk") (da := .int (S.ln : Nat)) (dc := .int ((S.ln : Nat) + 1)) 0 (pd_var 0) rfl rfl pd_int iop_add ok_i0 F.cls_Desk F.noat_Desk_lines (Nat.le_of_ble_eq_true rfl) ?_
  refine pb_ret (pd_var 2) ⟨rfl, ?_⟩
  show _ = deskM K (S.wrote (txW S ws))
  unfold txW bodyW
  rw [hbd]
  rfl
end
end H66

set_option Elab.async false
set_option linter.all false
set_option maxRecDepth 100000
set_option maxHeartbeats 4000000
/-! the lines that are said. -/
namespace BO
open PySem PySem.Spec PyProof.Rows L2 LW
structure LineOk (line : Str) (ws : List Str) : Prop where
  sp : nonE (Txt.split line " ") = ws
  n : (Txt.split line " ").length ≤ 10
  sh : SeqAt.shaped (.list (ws.map .str)) = true
  ne : PyData.eqv (.list (ws.map .str)) (.list []) = false
  ll : line.length ≤ 100
  hw : ws.length ≤ 3
  hs : (ws.map (·.length)).sum ≤ 30
def lineOk (line : Str) (ws : List Str) : Bool := decide (nonE (Txt.split line " ") = ws) && decide ((Txt.split line " ").length ≤ 10) && SeqAt.shaped (.list (ws.map .str)) && !PyData.eqv (.list (ws.map .str)) (.list []) && decide (line.length ≤ 100) && decide (ws.length ≤ 3) && decide ((ws.map (·.length)).sum ≤ 30)
theorem LineOk.of {line : Str} {ws : List Str} (h : lineOk line ws = true) : LineOk line ws := by
  unfold lineOk at h
  simp only [Bool.and_eq_true, decide_eq_true_eq, Bool.not_eq_true'] at h
  obtain ⟨⟨⟨⟨⟨⟨a1, a2⟩, a3⟩, a4⟩, a5⟩, a6⟩, a7⟩ := h
  exact ⟨a1, a2, a3, a4, a5, a6, a7⟩
def seeL (pt : Pt) (a : Bool) : Str := ("see " ++ wordOf pt) ++ (if a = true then " yes" else " no")
def dropL (pt : Pt) : Str := "drop " ++ wordOf pt
def openL (n : Nat) : Str := "open " ++ (toString (n : Int) : Str)
theorem seeL_all : ((List.range 7).all fun n => (allB n).all fun pt => decide (pt.length = 0) || lineOk (seeL pt true) [("see" : Str), wordOf pt, ("yes" : Str)] && lineOk (seeL pt false) [("see" : Str), wordOf pt, ("no" : Str)] && lineOk (dropL pt) [("drop" : Str), wordOf pt]) = true := by decide +kernel
theorem openL_all : ((List.range 10).all fun n => lineOk (openL n) [("open" : Str), (toString (n : Int) : Str)]) = true := by decide +kernel
theorem seeL_ok {pt : Pt} (h0 : 0 < pt.length) (h1 : pt.length ≤ 6) (hb : ∀ b ∈ pt, b = 0 ∨ b = 1) (a : Bool) : LineOk (seeL pt a) [("see" : Str), wordOf pt, saidS a] ∧ LineOk (dropL pt) [("drop" : Str), wordOf pt] := by
  have h := List.all_eq_true.mp (List.all_eq_true.mp seeL_all pt.length (List.mem_range.mpr (by omega))) pt (allB_mem rfl hb)
  rw [decide_eq_false (by omega), Bool.false_or] at h
  simp only [Bool.and_eq_true] at h
  obtain ⟨⟨a1, a2⟩, a3⟩ := h
  refine ⟨LineOk.of ?_, LineOk.of a3⟩
  cases a
  · exact a2
  · exact a1
theorem openL_ok {n : Nat} (h : n < 10) : LineOk (openL n) [("open" : Str), (toString (n : Int) : Str)] := LineOk.of (List.all_eq_true.mp openL_all n (List.mem_range.mpr h))
theorem treeL_ok : LineOk "tree" [("tree" : Str)] := LineOk.of (by decide +kernel)
theorem sizeL_ok : LineOk "size" [("size" : Str)] := LineOk.of (by decide +kernel)
theorem flatL_ok : LineOk "flat" [("flat" : Str)] := LineOk.of (by decide +kernel)
/-! the states behind a line -/
theorem DOk.seen {S : DS} (h : DOk S) {pt : Pt} {a : Bool} {tx : Str} (hl : pt.length = S.many) (hb : ∀ b ∈ pt, b = 0 ∨ b = 1) (hn : pt ∉ S.ex.map (·.1)) (hln : S.ln ≤ 13) (htx : tx.length ≤ S.tx.length + 200) : DOk ((S.seen pt a).wrote tx) := by
  have l1 := h.l1
  have l2 := h.l2
  have l3 := h.l3
  have l4 := h.l4
  have m1 := h.m1
  refine ⟨⟨fun e he => ?_, fun e he => ?_, ?_⟩, h.c.put (pt, a), h.m0, h.m1, ?_, ?_, ?_, ?_, ?_⟩
  · rcases List.mem_append.mp he with z | z
    · exact h.g.len e z
    · cases List.mem_singleton.mp z; exact hl
  · rcases List.mem_append.mp he with z | z
    · exact h.g.bit e z
    · cases List.mem_singleton.mp z; exact hb
  · show ((S.ex ++ [(pt, a)]).map (·.1)).Nodup
    rw [List.map_append, List.nodup_append]
    refine ⟨h.g.nd, by simp, fun x hx y hy e => ?_⟩
    have hy : y = pt := List.mem_singleton.mp hy
    exact hn (by rw [← hy, ← e]; exact hx)
  · show (S.ex ++ [(pt, a)]).length ≤ S.ln + 1
    rw [List.length_append]
    show S.ex.length + 1 ≤ _
    omega
  · show S.ln + 1 ≤ 14
    omega
  · have := tput_len S.t a ((tget S.t a).getD 0 + 1)
    show (tput _ _ _).length ≤ S.ln + 1
    omega
  · have := upO_len (· + ·) a pt S.o S.many
    show (upO _ _ _ _ _).length ≤ 10 * (S.ln + 1)
    omega
  · show tx.length ≤ 200 * (S.ln + 1)
    omega
theorem DOk.left {S : DS} (h : DOk S) {pt : Pt} {a : Bool} {tx : Str} (he : (pt, a) ∈ S.ex) (hln : S.ln ≤ 13) (htx : tx.length ≤ S.tx.length + 200) : DOk ((S.left pt a).wrote tx) := by
  have l1 := h.l1
  have l2 := h.l2
  have l3 := h.l3
  have l4 := h.l4
  have m1 := h.m1
  refine ⟨h.g.sub List.filter_sublist, h.c.take h.g.nd he, h.m0, h.m1, ?_, ?_, ?_, ?_, ?_⟩
  · have := List.length_filter_le (fun e : Ex => !decide (e.1 = pt)) S.ex
    show (dropE S.ex pt).length ≤ S.ln + 1
    unfold dropE
    omega
  · show S.ln + 1 ≤ 14
    omega
  · have := tput_len S.t a ((tget S.t a).getD 0 + -1)
    show (tput _ _ _).length ≤ S.ln + 1
    omega
  · have := upO_len (· - ·) a pt S.o S.many
    show (upO _ _ _ _ _).length ≤ 10 * (S.ln + 1)
    omega
  · show tx.length ≤ 200 * (S.ln + 1)
    omega
theorem DOk.seenW {S : DS} (h : DOk S) {pt : Pt} {a : Bool} (hl : pt.length = S.many) (hb : ∀ b ∈ pt, b = 0 ∨ b = 1) (hn : pt ∉ S.ex.map (·.1)) (hln : S.ln ≤ 13) : DOk (S.seenW pt a) := by
  have L := (seeL_ok (pt := pt) (by rw [hl]; exact h.m0) (by rw [hl]; exact h.m1) hb a).1
  exact h.seen hl hb hn hln (txW_len (S := S.seen pt a) h.ln L.hw L.hs)
theorem DOk.leftW {S : DS} (h : DOk S) {pt : Pt} {a : Bool} (hl : pt.length = S.many) (hb : ∀ b ∈ pt, b = 0 ∨ b = 1) (he : (pt, a) ∈ S.ex) (hln : S.ln ≤ 13) : DOk (S.leftW pt a) := by
  have L := (seeL_ok (pt := pt) (by rw [hl]; exact h.m0) (by rw [hl]; exact h.m1) hb a).2
  exact h.left he hln (txW_len (S := S.left pt a) h.ln L.hw L.hs)
theorem DOk.new {q qe qc qt qo : Addr} {n : Nat} {tx : Str} (h0 : 0 < n) (h1 : n ≤ 6) (htx : tx.length ≤ 200) : DOk ((newS q qe qc qt qo n 0 "").wrote tx) :=
  ⟨⟨fun _ h => absurd h List.not_mem_nil, fun _ h => absurd h List.not_mem_nil, List.nodup_nil⟩, CntOk.nil n, h0, h1, Nat.zero_le _, Nat.le_of_ble_eq_true rfl, Nat.zero_le _, Nat.zero_le _, by show tx.length ≤ 200 * (0 + 1); omega⟩
end BO

set_option Elab.async false
set_option linter.all false
set_option maxRecDepth 100000
set_option maxHeartbeats 4000000
/-! Desk.do by its lines; Desk.say. -/
namespace BO
open PySem PySem.Spec PyProof.Rows L2 LW
structure OpA where
  q : Addr
  qe : Addr
  n : Nat
  h0 : 0 < n
  h1 : n ≤ 6
theorem py_strs (ws : List Str) : (LW.D.lst (ws.map D.str)).py = some (.list (ws.map .str)) := by
  have : D.pys (ws.map D.str) = some (ws.map PyData.str) := by
    induction ws with
    | nil => rfl
    | cons a r ih => rw [List.map_cons, List.map_cons]; unfold D.pys; rw [ih]; rfl
  unfold D.py
  rw [this]
  rfl
theorem Tr.lt.mono {m n : Nat} (h : m ≤ n) : ∀ {t : Tr}, t.lt m → t.lt n
  | .leaf _, _ => trivial
  | .node p l r, ⟨h1, h2, h3⟩ => ⟨Nat.lt_of_lt_of_le h1 h, Tr.lt.mono h h2, Tr.lt.mono h h3⟩
theorem small_log {i : Int} (h0 : 0 ≤ i) (h : i ≤ 1000) : i.natAbs.log2 < 1920 := log_small h0 (Int.lt_of_le_of_lt h (by decide))
theorem size_log {t : Tr} (h : t.cnt ≤ 14) : t.size.natAbs.log2 < 1920 := by
  rw [Tr.size_cnt]
  exact small_log (by omega) (by omega)
theorem depth_dep : ∀ t : Tr, 0 ≤ t.depth ∧ t.depth ≤ (t.dep : Int)
  | .leaf _ => ⟨Int.le_refl _, Int.le_refl _⟩
  | .node p l r => by
    obtain ⟨h1, h2⟩ := depth_dep l
    obtain ⟨h3, h4⟩ := depth_dep r
    show 0 ≤ 1 + max l.depth r.depth ∧ 1 + max l.depth r.depth ≤ ((max l.dep r.dep + 1 : Nat) : Int)
    omega
theorem depth_log {t : Tr} (h : t.dep ≤ 14) : t.depth.natAbs.log2 < 1920 := by
  obtain ⟨h1, h2⟩ := depth_dep t
  exact small_log h1 (by omega)
end BO
namespace H66
open PySem PySem.Spec PyProof.Rows L2 LW BO
abbrev doN : List Str := ["self", "line", "words", "point", "ladder", "points", "word"]
theorem sc_do : FnScope doN ["self", "line"] (defScope s_Desk_do) := ⟨rfl, rfl, rfl, by decide +kernel, rfl, by decide +kernel, by decide +kernel⟩
theorem sc_sy : FnScope ["self", "line", "fault"] ["self", "line"] (defScope s_Desk_say) := ⟨rfl, rfl, rfl, by decide +kernel, rfl, by decide +kernel, by decide +kernel⟩
abbrev doX (P : Program) (w : World) (K : PySem.W.Frag) (mg : Str → Option Value) (base : Heap) (A : Around) (outer : List Env) (s : Shared) (H : Hp) (E : XK) : Cx := (cxOf CX0 P w K mg base doN "Desk.do" (defScope s_Desk_do) (He.fAd K ("Desk", some "do")) (.ref (He.codeOf K ("Desk", some "do"))) A outer s H E).nox
abbrev doA (K : PySem.W.Frag) (A : Around) (s : Shared) : Around := A.deeper (envOfC "Desk.do" (defScope s_Desk_do) s.heap.objs.size (He.fAd K ("Desk", some "do")) (.ref (He.codeOf K ("Desk", some "do"))))
abbrev doR (q : Addr) (line : Str) (ws : List Str) : List (Option D) := [some (.ref q), some (.str line), some (.lst (ws.map D.str)), none, none, none, none]
section
variable {P : Program} {w : World} {K : PySem.W.Frag} {mg : Str → Option Value} {base : Heap} {A : Around} {outer : List Env} {s : Shared} {H : Hp} {E : XK} {T : List Addr} {M : Mem} {Nx : List (Option D) → Mem → Prop} {Rt : D → Mem → Prop} {q : Addr} {line : Str} {ws : List Str}
/-- words = .., and the test that there are some -/
theorem do_pre (L : LineOk line ws) (hr : Room 1 (doA K A s)) (k : PB (doX P w K mg base A outer s H E) T (doR q line ws) M ((defBody s_Desk_do).drop 2) Nx Rt) :
    PB (doX P w K mg base A outer s H E) T [some (.ref q), some (.str line), none, none, none, none, none] M (defBody s_Desk_do) Nx Rt := by
  have nd := sc_do.nd
  have hz := sizeLine_eq
  have hl := L.ll
  have hn := L.n
  refine pb_setLc 2 (own := [("word", 6)]) (xs := Txt.split line " ") (kp := fun y => !decide (y = "")) (enc := D.str) (us := fun y => [.str y]) (ed := D.str) (pdi_list LV.dat (pd_split (x := line) (by decide) (by omega) (pd_var 1) pd_str)) nd (blkOk_by (by kernel_rfl)) (fun s H C cl fp => pg_name nd rfl (Or.inl rfl)) (tgt_name 6) (by decide) LV.dat ⟨rfl, fun _ => rfl⟩ (by omega)
    (fun y hy s H C cl fp => pdts_one (pdt_neS (pd_var 6) pd_str)) (fun y hy _ s H C cl fp => pd_var 6) ?_
  have e : ((Txt.split line " ").filter fun y : Str => !decide (y = "")) = ws := L.sp
  rw [e]
  exact pb_ifno (pdt_cast (pdt_eqD (x := .list (ws.map .str)) (y := .list []) (un_of hr (by decide)) (.dat (py_strs ws)) (.dat rfl) L.sh rfl L.ne (pd_var 2) (pd_lst pdl_nil)) rfl) k
theorem do_test (F : Fx P w K mg base) {w0 z : Str} {r : List Str} {n : Int} {j1 j2 j3 : Nat} {p1 p2 p3 p4 p5 p6 p7 p8 p9 p10 p11 : Pos} : PDT (doX P w K mg base A outer s H E) T (doR q line (w0 :: r)) M (.BoolOp .And [.Compare (.Subscript (.Name "words" p1) (.Constant (.int 0) j1 p2) p3) [.Eq] [.Constant (.str z) j2 p4] p5, .Compare (.Call (.Name "len" p6) [.Name "words" p7] [] p8) [.Eq] [.Constant (.int n) j3 p9] p10] p11)
    (decide (w0 = z) && decide ((((w0 :: r).map D.str).length : Int) = n)) M :=
  pdt_and (pdt_eqS (pd_ixL (ds := (w0 :: r).map D.str) LV.dat (atI_of (Int.le_refl _) rfl) (pd_var 2) pd_int) pd_str) fun _ => pdt_eqI (pd_lenL LV.dat F.free_len (pd_var 2)) pd_int
theorem do_list {z : Str} {k : Bool} {j2 : Nat} {p1 p4 p5 p6 : Pos} (hr : Room 1 (doA K A s)) (h1 : SeqAt.shaped (.list (ws.map .str)) = true) (h2 : SeqAt.shaped (.list [.str z]) = true) (hk : PyData.eqv (.list (ws.map .str)) (.list [.str z]) = k) :
    PDT (doX P w K mg base A outer s H E) T (doR q line ws) M (.Compare (.Name "words" p1) [.Eq] [.List [.Constant (.str z) j2 p4] p6] p5) k M :=
  pdt_eqD (x := .list (ws.map .str)) (y := .list [.str z]) (un_of hr (by decide)) (.dat (py_strs ws)) (.dat rfl) h1 h2 hk (pd_var 2) (pd_lst (pdl_1 pd_str))
theorem do_one (F : Fx P w K mg base) {w0 : Str} (k : PB (doX P w K mg base A outer s H E) T (doR q line [w0]) M ((defBody s_Desk_do).drop 7) Nx Rt) :
    PB (doX P w K mg base A outer s H E) T (doR q line [w0]) M ((defBody s_Desk_do).drop 2) Nx Rt :=
  pb_ifno (pdt_cast (do_test F) (Bool.and_false _)) (pb_ifno (pdt_cast (do_test F) (Bool.and_false _)) (pb_ifno (pdt_cast (do_test F) (Bool.and_false _)) (pb_ifno (pdt_cast (do_test F) (Bool.and_false _)) (pb_ifno (pdt_cast (do_test F) (Bool.and_false _)) k))))
end
section
variable {P : Program} {w : World} {K : PySem.W.Frag} {mg : Str → Option Value} {base : Heap}
theorem doO_ok (F : Fx P w K mg base) : Cal P w K mg base 22 (He.fAd K ("Desk", some "do")) ["self", "line"] (spC w (Tb K) (fun x : OpA => [.ref x.q, .str (openL x.n)]) (fun x => frM (He.ga K "Desk") x.q x.qe) (fun x d m => d = .str "" ∧ ∃ qe qc qt qo tx, tx.length ≤ 200 ∧ m = deskM K ((newS x.q qe qc qt qo x.n 0 "").wrote tx))) := by
  obtain ⟨fd, Fc, hb⟩ := F.fn_Desk_do
  refine ⟨⟨fd, LW.fn_ok Fc sc_do (fun x => [some (.ref x.q), some (.str (openL x.n)), none, none, none, none, none]) (fun x A outer s H E hr => ?_), hb⟩, Fc.kp⟩
  obtain ⟨q, qe, n, h0, h1⟩ := x
  have h1 : n ≤ 6 := h1
  have L := openL_ok (n := n) (by omega)
  refine do_pre L (hr.mono (by decide)) ?_
  refine pb_ifret (k := true) (pdt_cast (do_test F) rfl) (fun _ => ?_) fun h => by cases h
  refine pb_seq (Nx1 := fun ρ' m => ρ' = doR q (openL n) [("open" : Str), (toString (n : Int) : Str)] ∧ ∃ qe qc qt qo, m = deskM K (newS q qe qc qt qo n 0 ""))
    (pb1_expr (pdr_mC (⟨⟨q, qe⟩, n, h0, h1⟩ : BgA) (Db_ok F) (hr.mono (by decide)) F.cls_Desk F.meth_Desk_begin (pd_var 0) (OV.own (fs := frF qe) 0) (pdl_1 (pd_cC (⟨n, by omega⟩ : NuA) (nu_ok F) (hr.mono (by decide)) F.glo_number (pdl_1 (pd_ixL LV.dat rfl (pd_var 2) pd_int)) rfl)) rfl Fram.all) fun d m ⟨m', e1, _, qe, qc, qt, qo, e3⟩ => ⟨rfl, qe, qc, qt, qo, e1.trans e3⟩) fun ρ' m ⟨e1, qe2, qc, qt, qo, e2⟩ => ?_
  subst e1 e2
  refine pb_retR (pdr_mC (⟨newS q qe2 qc qt qo n 0 "", Nat.zero_le _, Nat.zero_le _, [("open" : Str), (toString (n : Int) : Str)], "", L.hw, L.hs⟩ : WrA) (Wr_ok F) (hr.mono (by decide)) F.cls_Desk F.meth_Desk_written (pd_var 0) (OV.own (fs := (newS q qe2 qc qt qo n 0 "").f) 0) (pdl_cons (pd_var 2) (pdl_1 pd_str)) rfl Fram.all) fun d m ⟨m', e1, e2, e4⟩ => ⟨e2, qe2, qc, qt, qo, txW (newS q qe2 qc qt qo n 0 "") [("open" : Str), (toString (n : Int) : Str)], ?_, e1.trans e4⟩
  have e3 := txW_len (S := newS q qe2 qc qt qo n 0 "") (ws := [("open" : Str), (toString (n : Int) : Str)]) (Nat.zero_le _) L.hw L.hs
  have : (newS q qe2 qc qt qo n 0 "").tx.length = 0 := by show ("" : Str).length = 0; decide
  omega
theorem doS_ok (F : Fx P w K mg base) : Cal P w K mg base 22 (He.fAd K ("Desk", some "do")) ["self", "line"] (spC w (Tb K) (fun x : SeA => [.ref x.S.q, .str (seeL x.pt x.a)]) (fun x => deskM K x.S) (fun x d m => d = .str (saidS ((x.S.tree false).has x.pt)) ∧ m = deskM K (x.S.seenW x.pt x.a))) := by
  obtain ⟨fd, Fc, hb⟩ := F.fn_Desk_do
  refine ⟨⟨fd, LW.fn_ok Fc sc_do (fun x => [some (.ref x.S.q), some (.str (seeL x.pt x.a)), none, none, none, none, none]) (fun x A outer s H E hr => ?_), hb⟩, Fc.kp⟩
  obtain ⟨⟨⟨S, h⟩, pt, hl, hbt⟩, a, hn⟩ := x
  have hl : pt.length = S.many := hl
  have hn : pt ∉ S.ex.map (·.1) := hn
  have L := (seeL_ok (pt := pt) (by rw [hl]; exact h.m0) (by rw [hl]; exact h.m1) hbt a).1
  refine do_pre L (hr.mono (by decide)) ?_
  refine pb_ifno (pdt_cast (do_test F) rfl) ?_
  refine pb_ifret (k := true) (pdt_cast (do_test F) rfl) (fun _ => ?_) fun h => by cases h
  refine pb_retR (pdr_mC (⟨S.seen pt a, h.ln, h.l4, [("see" : Str), wordOf pt, saidS a], saidS ((S.tree false).has pt), L.hw, L.hs⟩ : WrA) (Wr_ok F) (hr.mono (by decide)) F.cls_Desk F.meth_Desk_written (pd_var 0) (OV.own (fs := S.f) 0) (pdl_cons (pd_var 2) (pdl_1
    (pd_ofR (d := .str (saidS ((S.tree false).has pt))) (M1 := deskM K (S.seen pt a)) (pdr_mC (⟨⟨⟨S, h⟩, pt, hl, hbt⟩, a, hn⟩ : SeA) (Se_ok F) hr F.cls_Desk F.meth_Desk_see (pd_var 0) (OV.own (fs := S.f) 0) (pdl_cons
      (pd_ofR (d := ptD pt) (M1 := deskM K S) (pdr_mC (⟨⟨S, h⟩, pt, hl, hbt⟩ : DwA) (Dh_ok F) (hr.mono (by decide)) F.cls_Desk F.meth_Desk_here (pd_var 0) (OV.own (fs := S.f) 0) (pdl_1 (pd_ixL LV.dat rfl (pd_var 2) pd_int)) rfl Fram.all) fun d m ⟨m', e1, e2, e3⟩ => ⟨e2, e1.trans e3⟩)
      (pdl_1 (pd_cC a (an_ok F) (hr.mono (by decide)) F.glo_answer_of (pdl_1 (pd_ixL LV.dat rfl (pd_var 2) pd_int)) rfl))) rfl Fram.all) fun d m ⟨m', e1, e2, e3⟩ => ⟨e2, e1.trans e3⟩))) rfl Fram.all) fun d m ⟨m', e1, e2, e4⟩ => ⟨e2, e1.trans e4⟩
theorem doD_ok (F : Fx P w K mg base) : Cal P w K mg base 22 (He.fAd K ("Desk", some "do")) ["self", "line"] (spC w (Tb K) (fun x : DrA => [.ref x.S.q, .str (dropL x.pt)]) (fun x => deskM K x.S) (fun x d m => d = .str "" ∧ m = deskM K (x.S.leftW x.pt x.a))) := by
  obtain ⟨fd, Fc, hb⟩ := F.fn_Desk_do
  refine ⟨⟨fd, LW.fn_ok Fc sc_do (fun x => [some (.ref x.S.q), some (.str (dropL x.pt)), none, none, none, none, none]) (fun x A outer s H E hr => ?_), hb⟩, Fc.kp⟩
  obtain ⟨⟨⟨S, h⟩, pt, hl, hbt⟩, a, he⟩ := x
  have hl : pt.length = S.many := hl
  have he : (pt, a) ∈ S.ex := he
  have L := (seeL_ok (pt := pt) (by rw [hl]; exact h.m0) (by rw [hl]; exact h.m1) hbt a).2
  refine do_pre L (hr.mono (by decide)) ?_
  refine pb_ifno (pdt_cast (do_test F) rfl) ?_
  refine pb_ifno (pdt_cast (do_test F) rfl) ?_
  refine pb_ifret (k := true) (pdt_cast (do_test F) rfl) (fun _ => ?_) fun h => by cases h
  refine pb_seq (Nx1 := fun ρ' m => ρ' = doR S.q (dropL pt) [("drop" : Str), wordOf pt] ∧ m = deskM K (S.left pt a))
    (pb1_expr (pdr_mC (⟨⟨⟨S, h⟩, pt, hl, hbt⟩, a, he⟩ : DrA) (Dr_ok F) (hr.mono (by decide)) F.cls_Desk F.meth_Desk_drop (pd_var 0) (OV.own (fs := S.f) 0) (pdl_1
      (pd_ofR (d := ptD pt) (M1 := deskM K S) (pdr_mC (⟨⟨S, h⟩, pt, hl, hbt⟩ : DwA) (Dh_ok F) (hr.mono (by decide)) F.cls_Desk F.meth_Desk_here (pd_var 0) (OV.own (fs := S.f) 0) (pdl_1 (pd_ixL LV.dat rfl (pd_var 2) pd_int)) rfl Fram.all) fun d m ⟨m', e1, e2, e3⟩ => ⟨e2, e1.trans e3⟩)) rfl Fram.all) fun d m ⟨m', e1, _, e3⟩ => ⟨rfl, e1.trans e3⟩) fun ρ' m ⟨e1, e2⟩ => ?_
  subst e1 e2
  exact pb_retR (pdr_mC (⟨S.left pt a, h.ln, h.l4, [("drop" : Str), wordOf pt], "", L.hw, L.hs⟩ : WrA) (Wr_ok F) (hr.mono (by decide)) F.cls_Desk F.meth_Desk_written (pd_var 0) (OV.own (fs := (S.left pt a).f) 0) (pdl_cons (pd_var 2) (pdl_1 pd_str)) rfl Fram.all) fun d m ⟨m', e1, e2, e4⟩ => ⟨e2, e1.trans e4⟩
theorem doT_ok (F : Fx P w K mg base) : Cal P w K mg base 22 (He.fAd K ("Desk", some "do")) ["self", "line"] (spC w (Tb K) (fun x : DA => [.ref x.S.q, .str "tree"]) (fun x => deskM K x.S) (fun x d m => d = .str (toldT (x.S.tree false)) ∧ m = deskM K x.S)) := by
  obtain ⟨fd, Fc, hb⟩ := F.fn_Desk_do
  refine ⟨⟨fd, LW.fn_ok Fc sc_do (fun x => [some (.ref x.S.q), some (.str "tree"), none, none, none, none, none]) (fun x A outer s H E hr => ?_), hb⟩, Fc.kp⟩
  obtain ⟨S, h⟩ := x
  have m1 := h.m1
  have c1 := h.cnt false
  refine do_pre treeL_ok (hr.mono (by decide)) (do_one F ?_)
  refine pb_ifret (k := true) (do_list (hr.mono (by decide)) treeL_ok.sh (by decide +kernel) (by decide +kernel)) (fun _ => ?_) fun h => by cases h
  exact pb_ret (pd_cC (⟨S.tree false, h.dep false, (h.lt false).mono (by omega), by omega⟩ : TtA 14) (tt_ok F 14) (hr.mono (by decide)) F.glo_told_tree (pdl_1 (pd_smallest F h (hr.mono (by decide)) (pd_var 0))) rfl) ⟨rfl, rfl⟩
theorem doF_ok (F : Fx P w K mg base) : Cal P w K mg base 22 (He.fAd K ("Desk", some "do")) ["self", "line"] (spC w (Tb K) (fun x : DA => [.ref x.S.q, .str "flat"]) (fun x => deskM K x.S) (fun x d m => d = .str (toString (x.S.tree true).depth : Str) ∧ m = deskM K x.S)) := by
  obtain ⟨fd, Fc, hb⟩ := F.fn_Desk_do
  refine ⟨⟨fd, LW.fn_ok Fc sc_do (fun x => [some (.ref x.S.q), some (.str "flat"), none, none, none, none, none]) (fun x A outer s H E hr => ?_), hb⟩, Fc.kp⟩
  obtain ⟨S, h⟩ := x
  refine do_pre flatL_ok (hr.mono (by decide)) (do_one F ?_)
  refine pb_ifno (do_list (hr.mono (by decide)) flatL_ok.sh (by decide +kernel) (by decide +kernel)) ?_
  refine pb_ifret (k := true) (do_list (hr.mono (by decide)) flatL_ok.sh (by decide +kernel) (by decide +kernel)) (fun _ => ?_) fun h => by cases h
  exact pb_ret (pd_strI (i := (S.tree true).depth) (depth_log (h.dep true)) F.free_str (pd_cast (pd_cC (⟨S.tree true, h.dep true⟩ : TrA 14) (depth_ok F 14) (hr.mono (by decide)) F.glo_depth (pdl_1 (pd_cC (⟨true, S.many, srtX S.ex, h.root true⟩ : BeA) (be_ok F).all (hr.mono (by decide)) F.glo_best (pdl_cons (pd_inOrder F h (hr.mono (by decide)) (pd_var 0)) (pdl_cons (pd_places F h (hr.mono (by decide)) (pd_var 0)) (pdl_1 pd_bl))) rfl)) rfl) rfl)) ⟨rfl, rfl⟩
theorem doZ_ok (F : Fx P w K mg base) : Cal P w K mg base 22 (He.fAd K ("Desk", some "do")) ["self", "line"] (spC w (Tb K) (fun x : DA => [.ref x.S.q, .str "size"]) (fun x => deskM K x.S) (fun x d m => d = .str (toString (x.S.tree false).size : Str) ∧ m = deskM K x.S)) := by
  obtain ⟨fd, Fc, hb⟩ := F.fn_Desk_do
  refine ⟨⟨fd, LW.fn_ok Fc sc_do (fun x => [some (.ref x.S.q), some (.str "size"), none, none, none, none, none]) (fun x A outer s H E hr => ?_), hb⟩, Fc.kp⟩
  obtain ⟨S, h⟩ := x
  refine do_pre sizeL_ok (hr.mono (by decide)) (do_one F ?_)
  refine pb_ifno (do_list (hr.mono (by decide)) sizeL_ok.sh (by decide +kernel) (by decide +kernel)) ?_
  refine pb_ifno (do_list (hr.mono (by decide)) sizeL_ok.sh (by decide +kernel) (by decide +kernel)) ?_
  refine pb_ifret (k := true) (do_list (hr.mono (by decide)) sizeL_ok.sh (by decide +kernel) (by decide +kernel)) (fun _ => ?_) fun h => by cases h
  exact pb_ret (pd_strI (i := (S.tree false).size) (size_log (h.cnt false)) F.free_str (pd_cast (pd_cC (⟨S.tree false, h.dep false⟩ : TrA 14) (size_ok F 14) (hr.mono (by decide)) F.glo_size (pdl_1 (pd_smallest F h (hr.mono (by decide)) (pd_var 0))) rfl) rfl)) ⟨rfl, rfl⟩
/-- say, from do -/
theorem sy_ok (F : Fx P w K mg base) {α : Type} {q : α → Addr} {line : α → Str} {Mf : α → Mem} {post : α → D → Mem → Prop} {T : List Addr} (fs : α → List (Str × D)) (hov : ∀ x, (Mf x)[0]? = some (some (q x, .obj (He.ga K "Desk") (fs x)))) (hl : ∀ x, (fs x).lookup ("do" : Str) = none)
    (C : Cal P w K mg base 22 (He.fAd K ("Desk", some "do")) ["self", "line"] (spC w T (fun x : α => [.ref (q x), .str (line x)]) Mf post)) : Cal P w K mg base 23 (He.fAd K ("Desk", some "say")) ["self", "line"] (spC w T (fun x : α => [.ref (q x), .str (line x)]) Mf post) := by
  obtain ⟨fd, Fc, hb⟩ := F.fn_Desk_say
  refine ⟨⟨fd, LW.fn_ok Fc sc_sy (fun x => [some (.ref (q x)), some (.str (line x)), none]) (fun x A outer s H E hr => ?_), hb⟩, Fc.kp⟩
  exact pb_try (Nx1 := fun _ _ => False) (pb_retR (pdr_mC x C hr F.cls_Desk F.meth_Desk_do (pd_var 0) (OV.own 0 (hov x)) (pdl_1 (pd_var 1)) rfl Fram.all (hl x)) fun d m ⟨m', e1, e2⟩ => by rw [e1]; exact e2) fun _ _ h => h.elim
end
end H66

set_option Elab.async false
set_option linter.all false
set_option maxRecDepth 100000
set_option maxHeartbeats 4000000
/-! the dice of the law (the same text in each law). -/
namespace H66
open PySem PySem.Spec PyProof.Rows L2 LW
theorem sc_roll : FnScope ["dice", "many", "found"] ["dice", "many"] (defScope s_law_roll) := ⟨rfl, rfl, rfl, by decide +kernel, rfl, by decide +kernel, by decide +kernel⟩
theorem sc_dice : FnScope ["cell"] ["cell"] (defScope s_law_dice) := ⟨rfl, rfl, rfl, by decide +kernel, rfl, by decide +kernel, by decide +kernel⟩
theorem sc_rounds : FnScope ["script", "most", "cells", "cell"] ["script", "most"] (defScope s_law_rounds) := ⟨rfl, rfl, rfl, by decide +kernel, rfl, by decide +kernel, by decide +kernel⟩
abbrev spRoll (w : World) (T : List Addr) : Sp := spC w T (fun x : RollA => [.ref x.p, .int x.m]) (fun x => [some (x.p, .lst (diceD x.c))]) (fun x d m => d = .int (rollV x.c x.m) ∧ m = [some (x.p, .lst (diceD (rollC x.c x.m)))])
section
variable {P : Program} {w : World} {K : PySem.W.Frag} {mg : Str → Option Value} {base : Heap} {T : List Addr}
theorem roll_ok (F : Fx P w K mg base) : Cal P w K mg base 1 (He.fAd K ("_law_roll", none)) ["dice", "many"] (spRoll w T) := by
  obtain ⟨fd, Fc, hb⟩ := F.fn_law_roll
  refine ⟨⟨fd, LW.fn_ok Fc sc_roll (fun x => [some (.ref x.p), some (.int x.m), none]) (fun x A outer s H E hr => ?_), hb⟩, Fc.kp⟩
  obtain ⟨p, c, m, h0, h1⟩ := x
  have nd : (["dice", "many", "found"] : List Str).Nodup := sc_roll.nd
  refine pb_ifret (k := big c) (pdt_or (pdt_eqI (pd_ixL (LV.own 0) rfl (pd_var 0) pd_int) pd_int) fun _ => pdt_and (pdt_eqI (pd_ixL (LV.own 0) rfl (pd_var 0) pd_int) pd_int) fun _ => pdt_gt (pd_ixL (LV.own 0) rfl (pd_var 0) pd_int) pd_int) (fun hb => ?_) fun hb => ?_
  · refine pb_set 2 (pd_mod h0 (pd_intI F.free_int (pd_ixL (LV.own 0) rfl (pd_var 0) pd_int)) (pd_var 1)) nd ?_
    refine pb_setix 0 (pd_fdiv ⟨h0, h1⟩ (pd_ixL (LV.own 0) rfl (pd_var 0) pd_int) (pd_var 1)) (pd_var 0) pd_int rfl rfl ?_
    refine pb_ret (pd_var 2) ⟨?_, ?_⟩
    · unfold rollV
      rw [if_pos hb]
    · unfold rollC
      rw [if_pos hb]
      rfl
  · refine pb_setix 0 pd_int (pd_var 0) pd_int rfl rfl ?_
    refine pb_setix 0 (pd_mod (by decide) (pd_intI F.free_int (pd_add (pd_add (pd_mul (.inr ⟨by decide, by decide⟩) (pd_ixL (LV.own 0) rfl (pd_var 0) pd_int) pd_int) (pd_mul (.inr ⟨by decide, by decide⟩) (pd_ixL (LV.own 0) rfl (pd_var 0) pd_int) pd_int)) pd_int)) pd_int) (pd_var 0) pd_int rfl rfl ?_
    refine pb_setix 0 (pd_add (pd_ixL (LV.own 0) rfl (pd_var 0) pd_int) pd_int) (pd_var 0) pd_int rfl rfl ?_
    refine pb_ret (pd_mod h0 (pd_intI F.free_int (pd_add (pd_fdiv ⟨by decide, by decide⟩ (pd_ixL (LV.own 0) rfl (pd_var 0) pd_int) pd_int) (pd_ixL (LV.own 0) rfl (pd_var 0) pd_int))) (pd_var 1)) ⟨?_, ?_⟩
    · unfold rollV
      rw [if_neg (by rw [hb]; exact Bool.false_ne_true)]
      rfl
    · unfold rollC
      rw [if_neg (by rw [hb]; exact Bool.false_ne_true)]
      rfl
theorem dice_ok (F : Fx P w K mg base) : Cal P w K mg base 1 (He.fAd K ("_law_dice", none)) ["cell"] (spC w T (fun z : Int => [.int z]) (fun _ => []) (fun z d m => ∃ p, d = .ref p ∧ m = [some (p, .lst (diceD (diceOf z)))])) := by
  obtain ⟨fd, Fc, hb⟩ := F.fn_law_dice
  refine ⟨⟨fd, LW.fn_ok Fc sc_dice (fun z => [some (.int z)]) (fun z A outer s H E hr => ?_), hb⟩, Fc.kp⟩
  refine pb_ifret (k := decide (0 - 10 < z) && decide (z < 10)) (pdt_chain op_lt op_lt ok_ib ok_ib (pd_sub pd_int pd_int) (pd_var 0) pd_int fun _ => rfl) (fun hb => ?_) fun hb => ?_
  · refine pb_retR (pdr_lst (pdl_cons (pd_abs F.free_abs (pd_var 0)) (pdl_cons pd_int (pdl_1 pd_int)))) ?_
    rintro d m ⟨q, e1, e2⟩
    refine ⟨q, e1, ?_⟩
    rw [e2]
    unfold diceOf
    rw [if_pos hb]
    rfl
  · refine pb_retR (pdr_lst (pdl_cons (pd_var 0) (pdl_cons (pd_add pd_int (pd_mod (by decide) (pd_intI F.free_int (pd_var 0)) pd_int)) (pdl_1 (pd_intB F.free_int (pd_ge (pd_var 0) (pd_pow ⟨by decide, by decide, by decide⟩ pd_int pd_int))))))) ?_
    rintro d m ⟨q, e1, e2⟩
    refine ⟨q, e1, ?_⟩
    have e : diceOf z = (z, 1 + z % 1009, if decide (10 ^ 18 ≤ z) then 1 else 0) := by
      unfold diceOf
      rw [if_neg (by rw [hb]; exact Bool.false_ne_true)]
    rw [e2, e]
    rfl
theorem cut1 (ns : List Int) : LW.cutD ns none (some 1) = ns.take 1 := by
  unfold LW.cutD
  show (ns.drop 0).take (HT.sIx ns.length ns.length (some ((1 : Nat) : Int)) - 0) = _
  rw [HT.sIx_nat, List.drop_zero, Nat.sub_zero]
  cases ns with
  | nil => rfl
  | cons z r => simp
theorem rounds_ok (F : Fx P w K mg base) : Cal P w K mg base 2 (He.fAd K ("_law_rounds", none)) ["script", "most"] (spS K w T (fun _ => True) 1 roundsPost) := by
  obtain ⟨fd, Fc, hb⟩ := F.fn_law_rounds
  refine ⟨⟨fd, fnS_ok Fc sc_rounds (fun a ns A outer s H E _ hr => ?_), hb⟩, Fc.kp⟩
  have nd := sc_rounds.nd
  have hu := un_of hr (n := 64) (by decide)
  refine pbS_set 2 (pe_script (j := 1) 0 1) nd fun d m ⟨e1, e2⟩ => ?_
  subst e1 e2
  rw [cut1]
  have fin : ∀ (z : Int), PB (cxOf CX0 P w K mg base ["script", "most", "cells", "cell"] "_law_rounds" (defScope s_law_rounds) (He.fAd K ("_law_rounds", none)) (.ref (He.codeOf K ("_law_rounds", none))) A outer s H E).nox T [some (.ref a), some (.int 1), some (.lst [.int z]), none] [] ((defBody s_law_rounds).drop 2) (fun _ m => roundsPost ns .non m) (roundsPost ns) := by
    intro z
    refine pb_retR (pdr_lc (ds := [.int z]) (own := [("cell", 3)]) (fun i acc m => (i = 0 ∧ acc = [] ∧ m = []) ∨ (i = 1 ∧ ∃ p, acc = [.ref p] ∧ m = [some (p, .lst (diceD (diceOf z)))])) (pdi_list LV.dat (pd_var 2)) nd (blkOk_by (by kernel_rfl)) (fun s H C cl fp => pg_name nd rfl (Or.inl rfl)) (tgt_name 3) (by decide) (.inl ⟨rfl, rfl, rfl⟩) (fun _ _ _ _ => .dat)
      (fun i acc m h => by rcases h with ⟨_, e, _⟩ | ⟨_, p, e, _⟩ <;> rw [e] <;> exact Nat.le_of_ble_eq_true rfl) (fun i d h => ⟨_, rfl⟩) fun i d us acc m h1 h2 h3 s H C cl fp => ?_) ?_
    · cases h2
      have hi : i = 0 := by
        have := (List.getElem?_eq_some_iff.mp h1).1
        simpa using this
      subst hi
      cases h1
      rcases h3 with ⟨_, e2, e3⟩ | ⟨e0, _⟩
      · subst e2 e3
        exact pdr_imp (pdr_cC z (Mo := fun m => m) (dice_ok F) (hr.mono (by decide)) F.glo_law_dice (pdl_1 (pd_var 3)) rfl Fram.all) fun d' m ⟨m', e4, p, e5, e6⟩ => .inr ⟨rfl, p, by rw [e5]; rfl, by rw [e4, e6]⟩
      · cases e0
    · rintro d m ⟨acc, e1, h⟩
      rcases h with ⟨e0, _⟩ | ⟨_, p, e2, e3⟩
      · cases e0
      · exact ⟨p, z, by rw [e1, e2], e3⟩
  match ns with
  | [] =>
    refine pb_if (k := true) (Nx1 := fun ρ' m => ρ' = [some (.ref a), some (.int 1), some (.lst [.int 0]), none] ∧ m = []) (pdt_eqD (x := .list []) (y := .list []) hu (.dat rfl) (.dat rfl) rfl rfl rfl (pd_var 2) (pd_lst pdl_nil)) (fun _ => ?_) (fun h => by cases h) fun ρ' m ⟨e1, e2⟩ => ?_
    · exact pb_set 2 (pd_lst (pdl_1 pd_int)) nd (pb_nil ⟨rfl, rfl⟩)
    · subst e1 e2
      exact fin 0
  | z :: r =>
    refine pb_if (k := false) (Nx1 := fun ρ' m => ρ' = [some (.ref a), some (.int 1), some (.lst [.int z]), none] ∧ m = []) (pdt_eqD (x := .list [.int z]) (y := .list []) hu (.dat rfl) (.dat rfl) rfl rfl rfl (pd_var 2) (pd_lst pdl_nil)) (fun h => by cases h) (fun _ => pb_nil ⟨rfl, rfl⟩) fun ρ' m ⟨e1, e2⟩ => ?_
    subst e1 e2
    exact fin z
end
end H66

set_option Elab.async false
set_option linter.all false
set_option maxRecDepth 100000
set_option maxHeartbeats 4000000
/-! one roll, as the law says it (the same text in each law). -/
namespace H66
open PySem PySem.Spec PyProof.Rows L2 LW
theorem pd_roll {X : Cx} {T : List Addr} {ρ : List (Option D)} {M M1 : Mem} {a e : Expr} {pos p : Pos} (F : Fx X.prog X.w X.K X.mg X.base) (j : Nat) {q : Addr} {c : Dice} {m : Int} (h0 : 0 < m) (h1 : m < 1073741824) (hr : Room 1 X.A) (ha : PD X T ρ M a (.ref q) M) (he : PD X T ρ M e (.int m) M1) (hj : M1[j]? = some (some (q, .lst (diceD c))) := by rfl)
    (hg : Gl X "_law_roll" := by rfl) (hs : starEach [a, e] X.env = (false, eval a X.env) :: starEach [e] X.env := by rfl) (hs2 : starEach [e] X.env = (false, eval e X.env) :: starEach [] X.env := by rfl) (hpl : (backTo pos (starEach [e] X.env)).any (·.1) = false := by rfl) :
    PD X T ρ M (.Call (.Name "_law_roll" p) [a, e] [] pos) (.int (rollV c m)) (M1.set j (some (q, .lst (diceD (rollC c m))))) :=
  pd_ofR (pdr_cC (⟨q, c, m, h0, h1⟩ : RollA) (roll_ok F) hr F.glo_law_roll (pdl_cons ha (pdl_1 he hs2) hs) rfl (Fram.one j hj) hg (by decide) hs hpl) fun d m ⟨m', e1, e2, e3⟩ => ⟨e2, by rw [e1, e3]; exact List.append_nil _⟩
end H66

set_option Elab.async false
set_option linter.all false
set_option maxRecDepth 100000
set_option maxHeartbeats 4000000
/-! k66: the law's turn. -/
namespace LW
open PySem PySem.Spec PyProof.Rows L2
/-- by a relation, what is left over is let go -/
theorem pd_dropR {X : Cx} {T : List Addr} {ρ : List (Option D)} {M M' : Mem} {e : Expr} {d : D} {R : D → Mem → Prop} (he : PDR X T ρ M e R) (h : ∀ d' m, R d' m → d' = d ∧ ∃ Q, m.Perm (M' ++ Q)) : PD X T ρ M e d M' :=
  PE.imp he fun σ H Q ⟨G, hs, sl, k⟩ => ⟨G, hs, sl, fun v G' H' d' m r st hs' rd => by
    obtain ⟨e1, Qm, hp⟩ := h d' m r
    subst e1
    exact k v G' H' (st.less hp) (hs'.perm hp).left rd⟩
end LW
namespace H66
open PySem PySem.Spec PyProof.Rows L2 LW BO
abbrev lawN : List Str := ["script", "dice", "places", "desk", "held", "step", "point", "word", "before", "answer", "examples", "k", "bit", "one"]
theorem sc_law : FnScope lawN ["script"] (defScope s_law) := ⟨rfl, rfl, rfl, by decide +kernel, rfl, by decide +kernel, by decide +kernel⟩
def roundBody : List Stmt := match defBody s_law with
  | .For _ _ b _ _ :: _ => b
  | _ => []
def turnBody : List Stmt := match roundBody.drop 2 with
  | .For _ _ b _ _ :: _ => b
  | _ => []
abbrev LX (P : Program) (w : World) (K : PySem.W.Frag) (mg : Str → Option Value) (base : Heap) (A : Around) (outer : List Env) (s : Shared) (H : Hp) (E : XK) : Cx := (cxOf CX0 P w K mg base lawN "law" (defScope s_law) (He.fAd K ("law", none)) (.ref (He.codeOf K ("law", none))) A outer s H E).nox
abbrev lawA (K : PySem.W.Frag) (A : Around) (s : Shared) : Around := A.deeper (envOfC "law" (defScope s_law) s.heap.objs.size (He.fAd K ("law", none)) (.ref (He.codeOf K ("law", none))))
def lawR (a p : Addr) (S : DS) (st pt wd bf an ex : Option D) : List (Option D) := [some (.ref a), some (.ref p), some (.int (S.many : Nat)), some (.ref S.q), some (.dic (S.ex.map exK)), st, pt, wd, bf, an, ex, none, none, none]
def lawM (K : PySem.W.Frag) (p : Addr) (c : Dice) (S : DS) : Mem := [some (p, .lst (diceD c))] ++ deskM K S
section
variable {P : Program} {w : World} {K : PySem.W.Frag} {mg : Str → Option Value} {base : Heap}
theorem syT (F : Fx P w K mg base) : Cal P w K mg base 23 (He.fAd K ("Desk", some "say")) ["self", "line"] (spC w (Tb K) (fun x : DA => [.ref x.S.q, .str "tree"]) (fun x => deskM K x.S) (fun x d m => d = .str (toldT (x.S.tree false)) ∧ m = deskM K x.S)) := sy_ok F (fun x => x.S.f) (fun _ => rfl) (fun _ => rfl) (doT_ok F)
theorem syF (F : Fx P w K mg base) : Cal P w K mg base 23 (He.fAd K ("Desk", some "say")) ["self", "line"] (spC w (Tb K) (fun x : DA => [.ref x.S.q, .str "flat"]) (fun x => deskM K x.S) (fun x d m => d = .str (toString (x.S.tree true).depth : Str) ∧ m = deskM K x.S)) := sy_ok F (fun x => x.S.f) (fun _ => rfl) (fun _ => rfl) (doF_ok F)
theorem syZ (F : Fx P w K mg base) : Cal P w K mg base 23 (He.fAd K ("Desk", some "say")) ["self", "line"] (spC w (Tb K) (fun x : DA => [.ref x.S.q, .str "size"]) (fun x => deskM K x.S) (fun x d m => d = .str (toString (x.S.tree false).size : Str) ∧ m = deskM K x.S)) := sy_ok F (fun x => x.S.f) (fun _ => rfl) (fun _ => rfl) (doZ_ok F)
theorem syS (F : Fx P w K mg base) : Cal P w K mg base 23 (He.fAd K ("Desk", some "say")) ["self", "line"] (spC w (Tb K) (fun x : SeA => [.ref x.S.q, .str (seeL x.pt x.a)]) (fun x => deskM K x.S) (fun x d m => d = .str (saidS ((x.S.tree false).has x.pt)) ∧ m = deskM K (x.S.seenW x.pt x.a))) := sy_ok F (fun x => x.S.f) (fun _ => rfl) (fun _ => rfl) (doS_ok F)
theorem syD (F : Fx P w K mg base) : Cal P w K mg base 23 (He.fAd K ("Desk", some "say")) ["self", "line"] (spC w (Tb K) (fun x : DrA => [.ref x.S.q, .str (dropL x.pt)]) (fun x => deskM K x.S) (fun x d m => d = .str "" ∧ m = deskM K (x.S.leftW x.pt x.a))) := sy_ok F (fun x => x.S.f) (fun _ => rfl) (fun _ => rfl) (doD_ok F)
theorem syO (F : Fx P w K mg base) : Cal P w K mg base 23 (He.fAd K ("Desk", some "say")) ["self", "line"] (spC w (Tb K) (fun x : OpA => [.ref x.q, .str (openL x.n)]) (fun x => frM (He.ga K "Desk") x.q x.qe) (fun x d m => d = .str "" ∧ ∃ qe qc qt qo tx, tx.length ≤ 200 ∧ m = deskM K ((newS x.q qe qc qt qo x.n 0 "").wrote tx))) := sy_ok F (fun x => frF x.qe) (fun _ => rfl) (fun _ => rfl) (doO_ok F)
end
section
variable {P : Program} {w : World} {K : PySem.W.Frag} {mg : Str → Option Value} {base : Heap} {A : Around} {outer : List Env} {s : Shared} {H : Hp} {E : XK}
/-- what is asked behind each turn -/
theorem turn_end (F : Fx P w K mg base) (hr : Room 23 (lawA K A s)) {a p : Addr} {c : Dice} {S : DS} (h : DOk S) {st pt wd bf an ex : Option D} {Nx : List (Option D) → Mem → Prop} {Rt : D → Mem → Prop}
    (k : ∀ ex', Nx (lawR a p S st pt wd bf an ex') (lawM K p c S)) : PB (LX P w K mg base A outer s H E) (Tb K) (lawR a p S st pt wd bf an ex) (lawM K p c S) (turnBody.drop 3) Nx Rt := by
  have nd := sc_law.nd
  have hz := sizeLine_eq
  have h0 := h
  have k1 := h.l1
  have k2 := h.ln
  have c1 := h.cnt false
  have m1 := h.m1
  have g := h.root true
  have hlen : (srtX S.ex).length ≤ 16 := g.h
  have cS := grw_cost false S.many _ (srtX S.ex) (Nat.le_refl _) g.g
  have cD := grw_cost true S.many _ (srtX S.ex) (Nat.le_refl _) g.g
  rw [if_neg (by decide)] at cS
  rw [if_pos rfl] at cD
  have zS := size_log c1
  have zD := depth_log (h.dep true)
  refine pb_set (d := .lst ((srtX S.ex).map exD)) (M1 := lawM K p c S) 10 (pd_cast (pd_sortItems (kvs := S.ex.map exK) DV.dat (by rw [prD_exK]; exact srt_ex (by omega)) (un_of hr (by decide)) F.free_sorted (pd_var 4)) (by rw [prD_exK, sort_ex])) nd ?_
  have least : ∀ (flat : Bool) {pc pc1 pc2 pc3 pc4 pc5 : Pos} {j : Nat}, PD (LX P w K mg base A outer s H E) (Tb K) ((lawR a p S st pt wd bf an ex).set 10 (some (.lst ((srtX S.ex).map exD)))) (lawM K p c S) (.Call (.Name "_law_least" pc) [.Name "examples" pc1, .Name "places" pc2, .Constant (.bool flat) j pc3, .Dict [] [] pc4] [] pc5) (.int (cst flat S.many (srtX S.ex))) (lawM K p c S) := fun flat {_ _ _ _ _ _ _} =>
    pd_dropR (R := fun d m => d = .int (cst flat S.many (srtX S.ex)) ∧ ∃ q mm, m = lawM K p c S ++ [some (q, .dic (mmK mm))]) (pdr_cR (RL := fun ds m => ∃ q, ds = [.lst ((srtX S.ex).map exD), .int (S.many : Nat), .bl flat, .ref q] ∧ m = lawM K p c S ++ [some (q, .dic [])]) (le_ok F 16) (hr.mono (by decide)) F.glo_law_least
      (pdlr_cons (pdr_of (pd_var (d := .lst ((srtX S.ex).map exD)) (M := lawM K p c S) 10)) fun d m h => by
        obtain ⟨e1, e2⟩ := h
        subst e1 e2
        exact pdlr_cons (pdr_of (pd_var (d := .int (S.many : Nat)) (M := lawM K p c S) 2)) fun d m h => by
          obtain ⟨e1, e2⟩ := h
          subst e1 e2
          exact pdlr_cons (pdr_of (pd_bl (M := lawM K p c S))) fun d m h => by
            obtain ⟨e1, e2⟩ := h
            subst e1 e2
            exact pdlr_cons pdr_dnew fun d m ⟨q, e1, e2⟩ => by
              subst e1 e2
              exact pdlr_nil ⟨q, rfl, rfl⟩)
      fun ds m h => by
        obtain ⟨q, e1, e2⟩ := h
        subst e1 e2
        exact ⟨(⟨q, flat, S.many, srtX S.ex, srtX S.ex, [], h0.root flat, List.Sublist.refl _, hlen, MemOk.nil _ _ _⟩ : CoA 16), fun m => lawM K p c S ++ m, rfl, Fram.suffix (lawM K p c S) [some (q, .dic [])], fun d m' ⟨e3, mm', _, e4⟩ => ⟨e3, q, mm', by rw [e4]⟩⟩)
      fun d m ⟨e1, q, mm, e2⟩ => ⟨e1, [some (q, .dic (mmK mm))], by rw [e2]⟩
  refine pb_ifno (pdt_cast (pdt_neS (x := toldT (S.tree false)) (y := toldT (S.tree false)) (M1 := lawM K p c S) (pd_ofR (pdr_mC (⟨S, h⟩ : DA) (syT F) hr F.cls_Desk F.meth_Desk_say (pd_var 3) (OV.own (fs := S.f) 1) (pdl_1 pd_str) rfl (Fram.suffix [some (p, .lst (diceD c))] (deskM K S))) fun d m ⟨m', e1, e2, e3⟩ => ⟨e2, e1.trans (congrArg _ e3)⟩)
    (pd_cast (pd_cC (⟨S.tree false, h.dep false, (h.lt false).mono (by omega), by omega⟩ : TtA 14) (tt_ok F 14) (hr.mono (by decide)) F.glo_told_tree (pdl_1 (pd_cD (⟨false, S.many, srtX S.ex, h.root false⟩ : BeA) (be_ok F) (hr.mono (by decide)) F.glo_best (Dfl.bl false) (pdl_cons (pd_var 10) (pdl_1 (pd_var 2))) rfl)) rfl) rfl)) (by simp)) ?_
  refine pb_ifno (pdt_cast (pdt_neS (x := toString (S.tree false).size) (y := toString (cst false S.many (srtX S.ex))) (M1 := lawM K p c S) (pd_ofR (pdr_mC (⟨S, h⟩ : DA) (syZ F) hr F.cls_Desk F.meth_Desk_say (pd_var 3) (OV.own (fs := S.f) 1) (pdl_1 pd_str) rfl (Fram.suffix [some (p, .lst (diceD c))] (deskM K S))) fun d m ⟨m', e1, e2, e3⟩ => ⟨e2, e1.trans (congrArg _ e3)⟩)
    (pd_strI (by rw [← cS]; exact zS) F.free_str (least false))) (by rw [← cS]; show (!decide (_ = _)) = false; simp [DS.tree])) ?_
  exact pb_ifno (pdt_cast (pdt_neS (x := toString (S.tree true).depth) (y := toString (cst true S.many (srtX S.ex))) (M1 := lawM K p c S) (pd_ofR (pdr_mC (⟨S, h⟩ : DA) (syF F) hr F.cls_Desk F.meth_Desk_say (pd_var 3) (OV.own (fs := S.f) 1) (pdl_1 pd_str) rfl (Fram.suffix [some (p, .lst (diceD c))] (deskM K S))) fun d m ⟨m', e1, e2, e3⟩ => ⟨e2, e1.trans (congrArg _ e3)⟩)
    (pd_strI (by rw [← cD]; exact zD) F.free_str (least true))) (by rw [← cD]; show (!decide (_ = _)) = false; simp [DS.tree])) (pb_nil (k _))
end
end H66

set_option Elab.async false
set_option linter.all false
set_option maxRecDepth 100000
set_option maxHeartbeats 4000000
/-! k66: the law's turn and round. -/
namespace H66
open PySem PySem.Spec PyProof.Rows L2 LW BO
section
variable {P : Program} {w : World} {K : PySem.W.Frag} {mg : Str → Option Value} {base : Heap} {A : Around} {outer : List Env} {s : Shared} {H : Hp} {E : XK}
theorem word_small {pt : Pt} (hb : ∀ b ∈ pt, b = 0 ∨ b = 1) (hl : pt.length ≤ 6) : ((pt.map fun b => (toString b : Str)).map (·.length)).sum ≤ 6 := by
  have h := sumLen_le_of_bound (fun b : Int => (toString b : Str)) 1 pt fun b h => by
    rcases hb b h with z | z <;> subst z <;> decide
  omega
theorem turn_ok (F : Fx P w K mg base) (hr : Room 23 (lawA K A s)) {a p : Addr} {c : Dice} {S : DS} (h : DOk S) (hln : S.ln ≤ 13) {st pt wd bf an ex : Option D} {Nx : List (Option D) → Mem → Prop} {Rt : D → Mem → Prop}
    (k : ∀ S' c' st' pt' wd' bf' an' ex', DOk S' → S'.many = S.many → S'.q = S.q → S'.ln = S.ln + 1 → Nx (lawR a p S' st' pt' wd' bf' an' ex') (lawM K p c' S')) : PB (LX P w K mg base A outer s H E) (Tb K) (lawR a p S st pt wd bf an ex) (lawM K p c S) turnBody Nx Rt := by
  have nd := sc_law.nd
  have hz := sizeLine_eq
  have k1 := h.l1
  have k2 := h.ln
  have m0 := h.m0
  have m1 := h.m1
  have hr1 : Room 1 (lawA K A s) := hr.mono (by decide)
  have hu := un_of hr (n := 150) (by decide)
  have pl : (rollL c 2 S.many).length = S.many := rollL_len _ _ _
  have pb : ∀ b ∈ rollL c 2 S.many, b = 0 ∨ b = 1 := fun b hb => by
    have := rollL_range c (m := 2) (by decide) S.many b hb
    omega
  refine pb_set (d := ptD (rollL c 2 S.many)) (M1 := lawM K p (rollsC c 2 S.many) S) 6 (pd_tupL LV.dat F.free_tuple (pd_cast (pd_lcN (Ms := fun i => lawM K p (rollsC c 2 i) S) (Mt := fun i => lawM K p (rollsC c 2 i) S) (kp := fun _ => true) (el := fun i => .int (rollV (rollsC c 2 i) 2)) (own := [("k", 11)]) 11
    (pdi_range1 (j := S.many) F.free_range (pd_var 2) (by omega) (by omega)) nd (blkOk_by (by kernel_rfl)) (fun s H C cl fp => pg_name nd rfl (Or.inl rfl)) (tgt_name 11) (by decide) rfl (fun _ _ h => by cases h) (by omega)
    (fun i hi s H C cl fp => pdts_nil) fun i hi _ s H C cl fp => pd_roll F 0 (by decide) (by decide) hr1 (pd_var 1) pd_int) (by rw [given_all]; unfold rollL; rw [List.map_map]; rfl))) nd ?_
  generalize rollsC c 2 S.many = c1
  generalize rollL c 2 S.many = q at *
  have hw := word_small pb (by omega)
  refine pb_par (M1 := lawM K p c1 S) 7 8 (d1 := .str (wordOf q)) (d2 := trD (S.tree false)) (pdl_cons (pd_join (ys := q.map fun b => (toString b : Str)) (db := .lst ((q.map fun b => (toString b : Str)).map D.str)) LV.dat (by rw [show ("" : Str).length = 0 from by decide]; omega) pd_str (pd_cast (pd_lc (own := [("bit", 12)]) (xs := q) (kp := fun _ => true) (enc := D.int) (us := fun b => [.int b]) (ed := fun b => .str (toString b : Str)) (pdi_tup (ds := q.map D.int) (pd_var 6)) nd (blkOk_by (by kernel_rfl)) (fun s H C cl fp => pg_name nd rfl (Or.inl rfl)) (tgt_name 12) (by decide) trivial ⟨rfl, fun _ => rfl⟩ (by omega)
      (fun b hb s H C cl fp => pdts_nil) fun b hb _ s H C cl fp => pd_strI (by rcases pb b hb with z | z <;> subst z <;> decide) F.free_str (pd_var 12)) (by rw [filter_yes, List.map_map]; rfl)))
    (pdl_1 (pd_cast (pd_cD (⟨false, S.many, srtX S.ex, h.root false⟩ : BeA) (be_ok F) (hr.mono (by decide)) F.glo_best (Dfl.bl false) (pdl_cons (pd_cast (pd_sortItems (kvs := S.ex.map exK) DV.dat (by rw [prD_exK]; exact srt_ex (by omega)) (un_of hr (by decide)) F.free_sorted (pd_var 4)) (by rw [prD_exK, sort_ex])) (pdl_1 (pd_var 2))) rfl) rfl))) nd ?_
  by_cases hin : q ∈ S.ex.map (·.1)
  · obtain ⟨⟨q', b⟩, he', e1⟩ := List.mem_map.mp hin
    have he : (q, b) ∈ S.ex := by rw [← (show q' = q from e1)]; exact he'
    have hg := dget_ex_some h.g.nd he
    have nd1 : ((dropE S.ex q).map (·.1)).Nodup := (h.g.sub List.filter_sublist).nd
    have h2 : DOk (S.leftW q b) := h.leftW pl pb he hln
    have L := (seeL_ok (pt := q) (by omega) (by omega) pb b).2
    have wl := (wok (pt := q) (by omega) (by omega) pb).len
    refine pb_if (k := true) (Nx1 := fun ρ' m => ρ' = lawR a p (S.leftW q b) st (some (ptD q)) (some (.str (wordOf q))) (some (trD (S.tree false))) an ex ∧ m = lawM K p c1 (S.leftW q b))
      (pdt_cast (pdt_din (kvs := S.ex.map exK) (da := ptD q) dk_t (un_of hr (by decide)) DV.dat (tKey_exK _) (tKey_pt _) (pd_var 6) (pd_var 4)) (by rw [hg]; rfl)) (fun _ => ?_) (fun h => by cases h) fun ρ' m ⟨e1, e2⟩ => by
        subst e1 e2
        exact turn_end F hr h2 fun ex' => k _ _ _ _ _ _ _ _ h2 rfl rfl rfl
    refine pb_set (d := .dic ((dropE S.ex q).map exK)) (M1 := lawM K p c1 S) 4 (pd_cast (pd_dictH (kvs := (dropE S.ex q).map exK) (da := .lst ((dropE S.ex q).map exD)) (un_of hr (by decide)) (by rw [prD_exK]; exact LV.dat) (fun z hz => (tKey_exK _ z hz).1) (fun z hz => (tKey_exK _ z hz).2) ?_ F.free_dict
      (pd_cast (pd_lc (own := [("one", 13)]) (xs := S.ex) (kp := fun e => !decide (e.1 = q)) (enc := fun e => ptD e.1) (us := fun e => [ptD e.1]) (ed := exD) (pdi_keys (kvs := S.ex.map exK) (pd_var 4)) nd (blkOk_by (by kernel_rfl)) (fun s H C cl fp => pg_name nd rfl (Or.inl rfl)) (tgt_name 13) (by decide) trivial ⟨by rw [List.map_map]; rfl, fun _ => rfl⟩ (by omega)
        (fun e he s H C cl fp => pdts_one (pdt_neE encP_pt ?_ (pd_var 13) (pd_var 6))) fun e he _ s H C cl fp => pd_tup (pdl_cons (pd_var 13) (pdl_1 (pd_dsub (kvs := S.ex.map exK) (dk := ptD e.1) (d := .bl e.2) dk_t ?_ DV.dat (tKey_exK _) (tKey_pt _) (dget_ex_some h.g.nd he) (pd_var 4) (pd_var 13))))) rfl)) (by rw [dmrg_ex nd1])) nd ?_
    · rw [List.length_map]
      have := List.length_filter_le (fun e : Ex => !decide (e.1 = q)) S.ex
      unfold dropE
      omega
    · exact Nat.lt_of_le_of_lt (Nat.add_le_add_left (by decide : 64 ≤ 150) _) hu
    · exact Nat.lt_of_le_of_lt (Nat.add_le_add_left (by decide : 20 ≤ 150) _) hu
    · refine pb_one (pb1_expr (pdr_mC (⟨⟨⟨S, h⟩, q, pl, pb⟩, b, he⟩ : DrA) (syD F) hr F.cls_Desk F.meth_Desk_say (pd_var 3) (OV.own (fs := S.f) 1) (pdl_1 (pd_addS (x := "drop ") (y := wordOf q) (by rw [show ("drop " : Str).length = 5 from by decide]; omega) pd_str (pd_var 7))) rfl (Fram.suffix [some (p, .lst (diceD c1))] (deskM K S))) fun d m ⟨m', e1, _, e3⟩ => ⟨rfl, e1.trans (congrArg _ e3)⟩)
  · have wl := (wok (pt := q) (by omega) (by omega) pb).len
    generalize hb : decide (rollV c1 2 = 1) = b
    have h2 : DOk (S.seenW q b) := h.seenW pl pb hin hln
    refine pb_if (k := false) (Nx1 := fun ρ' m => ρ' = lawR a p (S.seenW q b) st (some (ptD q)) (some (.str (wordOf q))) (some (trD (S.tree false))) (some (.bl b)) ex ∧ m = lawM K p (rollC c1 2) (S.seenW q b))
      (pdt_cast (pdt_din (kvs := S.ex.map exK) (da := ptD q) dk_t (un_of hr (by decide)) DV.dat (tKey_exK _) (tKey_pt _) (pd_var 6) (pd_var 4)) (by rw [dget_ex_none hin]; rfl)) (fun h => by cases h) (fun _ => ?_) fun ρ' m ⟨e1, e2⟩ => by
        subst e1 e2
        exact turn_end F hr h2 fun ex' => k _ _ _ _ _ _ _ _ h2 rfl rfl rfl
    refine pb_set (d := .bl b) (M1 := lawM K p (rollC c1 2) S) 9 (pd_cast (pd_eqI (pd_roll F 0 (by decide) (by decide) hr1 (pd_var 1) pd_int) pd_int) (by rw [hb])) nd ?_
    have nd2 : ((S.ex ++ [(q, b)]).map (·.1)).Nodup := h2.g.nd
    refine pb_set (d := .dic ((S.ex ++ [(q, b)]).map exK)) (M1 := lawM K p (rollC c1 2) S) 4 (pd_cast (pd_dictH (kvs := (S.ex ++ [(q, b)]).map exK) (da := .lst ((S.ex ++ [(q, b)]).map exD)) (un_of hr (by decide)) (by rw [prD_exK]; exact LV.dat) (fun z hz => (tKey_exK _ z hz).1) (fun z hz => (tKey_exK _ z hz).2) (by rw [List.length_map, List.length_append]; show S.ex.length + 1 ≤ _; omega) F.free_dict
      (pd_cast (pd_catL (ds := S.ex.map exD) (es' := [exD (q, b)]) LV.dat LV.dat (by rw [List.length_map]; show S.ex.length + 1 ≤ _; omega) (pd_cast (pd_listItems (kvs := S.ex.map exK) DV.dat F.free_list (pd_var 4)) (by rw [prD_exK])) (pd_lst (pdl_1 (pd_tup (pdl_cons (pd_var 6) (pdl_1 (pd_var 9))))))) (by rw [List.map_append]; rfl))) (by rw [dmrg_ex nd2])) nd ?_
    have hh : PDT (LX P w K mg base A outer s H E) (Tb K) = PDT _ (Tb K) := rfl
    refine pb_ifno (pdt_cast (pdt_neS (x := saidS ((S.tree false).has q)) (y := saidS ((S.tree false).has q)) (M1 := lawM K p (rollC c1 2) (S.seenW q b)) (pd_ofR (pdr_mC (⟨⟨⟨S, h⟩, q, pl, pb⟩, b, hin⟩ : SeA) (syS F) hr F.cls_Desk F.meth_Desk_say (pd_var 3) (OV.own (fs := S.f) 1) (pdl_1 (pd_cast (pd_addS (x := "see " ++ wordOf q) (y := if b = true then " yes" else " no") ?_ (pd_addS (x := "see ") (y := wordOf q) ?_ pd_str (pd_var 7)) (pd_ifc (k := b) (pdt_val (pd_var 9)) (fun hk => ?_) fun hk => ?_)) (d' := .str (seeL q b)) ?_)) rfl (Fram.suffix [some (p, .lst (diceD (rollC c1 2)))] (deskM K S))) fun d m ⟨m', e1, e2, e3⟩ => ⟨e2, e1.trans (congrArg _ e3)⟩)
      (pd_ifc (k := (S.tree false).has q) (pdt_val (pd_cC (⟨S.tree false, q, pb, by rw [pl]; exact h.lt false⟩ : HasA) (has_ok F) (hr.mono (by decide)) F.glo_has (pdl_cons (pd_var 8) (pdl_1 (pd_var 6))) rfl)) (fun hk => ?_) fun hk => ?_)) (by simp)) (pb_nil ⟨rfl, rfl⟩)
    · have e1 : ("see " : Str).length = 4 := by decide
      have e2 : ((if b = true then " yes" else " no" : Str)).length ≤ 4 := by cases b <;> decide
      rw [app_len]
      omega
    · have e1 : ("see " : Str).length = 4 := by decide
      omega
    · rw [hk]; exact pd_str
    · rw [hk]; exact pd_str
    · cases b <;> rfl
    · rw [hk]; exact pd_str
    · rw [hk]; exact pd_str
theorem round_ok (F : Fx P w K mg base) (hr : Room 23 (lawA K A s)) {a p : Addr} {c : Dice} {Nx : List (Option D) → Mem → Prop} {Rt : D → Mem → Prop} (k : ∀ ρ m, Nx ρ m) :
    PB (LX P w K mg base A outer s H E) (Tb K) [some (.ref a), some (.ref p), none, none, none, none, none, none, none, none, none, none, none, none] [some (p, .lst (diceD c))] roundBody Nx Rt := by
  have nd := sc_law.nd
  have hr1 : Room 1 (lawA K A s) := hr.mono (by decide)
  have hz := sizeLine_eq
  have r1 := rollV_range c (m := 6) (by decide)
  obtain ⟨n, hn⟩ : ∃ n : Nat, 1 + rollV c 6 = (n : Int) := ⟨(1 + rollV c 6).toNat, (Int.toNat_of_nonneg (by omega)).symm⟩
  have n0 : 0 < n := by omega
  have n1 : n ≤ 6 := by omega
  obtain ⟨fi, Fi, bi⟩ := (Di_ok (T := Tb K) F).ex
  refine pb_asgGR (pdr_tup (RL := fun ds m => ∃ q qe, ds = [.int (n : Nat), .ref q, .dic []] ∧ m = [some (p, .lst (diceD (rollC c 6)))] ++ frM (He.ga K "Desk") q qe)
    (pdlr_cons (pdr_of (pd_cast (pd_add pd_int (pd_roll F 0 (by decide) (by decide) hr1 (pd_var 1) pd_int)) (d' := .int (n : Nat)) (by rw [hn]))) fun d m h => by
      obtain ⟨e1, e2⟩ := h
      subst e1 e2
      exact pdlr_cons (pdr_make0 (fun q => q) Fi F.mkr_Desk (hr.mono (by decide)) F.glo_Desk bi (fun _ => rfl) (fun _ => rfl) fun q d m h => h.1) fun d m h => by
        obtain ⟨q, m', e1, e2, _, qe, e3⟩ := h
        subst e1 e2 e3
        exact pdlr_cons (pdr_of pd_dnew0) fun d m h => by
          obtain ⟨e1, e2⟩ := h
          subst e1 e2
          exact pdlr_nil ⟨q, qe, rfl, rfl⟩) fun ds m ⟨_, _, e, _⟩ => by rw [e]; exact Nat.le_of_ble_eq_true rfl)
    (pg_tup rfl (pgs_cons (pg_name nd (i := 2) rfl (by first | exact Or.inl rfl | exact Or.inr rfl)) (pgs_cons (pg_name nd (i := 3) rfl (by first | exact Or.inl rfl | exact Or.inr rfl)) (pgs_cons (pg_name nd (i := 4) rfl (by first | exact Or.inl rfl | exact Or.inr rfl)) pgs_nil)))) (tgt_tup [2, 3, 4]) fun d m h => ?_
  obtain ⟨ds, e0, q, qe, e1, e2⟩ := h
  subst e0 e1 e2
  refine ⟨[.int (n : Nat), .ref q, .dic []], rfl, ?_⟩
  refine pb_seq (Nx1 := fun ρ' m => ∃ S, DOk S ∧ S.many = n ∧ S.q = q ∧ S.ln = 1 ∧ ρ' = lawR a p S none none none none none none ∧ m = lawM K p (rollC c 6) S)
    (pb1_expr (pdr_mC (⟨q, qe, n, n0, n1⟩ : OpA) (syO F) hr F.cls_Desk F.meth_Desk_say (pd_var 3) (OV.own (fs := frF qe) 1) (pdl_1 (pd_cast (pd_addS (x := "open ") (y := (toString (n : Int) : Str)) ?_ pd_str (pd_strI (i := (n : Nat)) ?_ F.free_str (pd_var 2))) (d' := .str (openL n)) rfl)) rfl (Fram.suffix [some (p, .lst (diceD (rollC c 6)))] (frM (He.ga K "Desk") q qe)))
      fun d m ⟨m', e1, _, qe2, qc, qt, qo, tx, hl, e2⟩ => ⟨(newS q qe2 qc qt qo n 0 "").wrote tx, DOk.new n0 n1 hl, rfl, rfl, rfl, rfl, e1.trans (congrArg _ e2)⟩) fun ρ' m ⟨S, h, hS, hq, hl, e1, e2⟩ => ?_
  · have := (nok (n := n) (by omega)).len
    rw [show ("open " : Str).length = 5 from by decide]
    omega
  · exact small_log (by omega) (by omega)
  subst e1 e2
  have r2 := rollV_range (rollC c 6) (m := 10) (by decide)
  refine pb_for (M1 := lawM K p (rollC (rollC c 6) 10) S) (pdi_range1 (j := rollV (rollC c 6) 10) F.free_range (pd_roll F 0 (by decide) (by decide) hr1 (pd_var 1) pd_int) (by omega) (by omega))
    (pg_name (i := 5) nd rfl (by first | exact Or.inl rfl | exact Or.inr rfl)) (tgt_name 5) (fun i ρ' m => ∃ S' c' o1 o2 o3 o4 o5 o6, DOk S' ∧ S'.ln = i + 1 ∧ ρ' = lawR a p S' o1 o2 o3 o4 o5 o6 ∧ m = lawM K p c' S') ⟨S, _, _, _, _, _, _, _, h, hl, rfl, rfl⟩ (fun _ _ _ _ _ => trivial) (fun i d h => ⟨_, rfl⟩) (fun i d us ρ' m h1 h2 h3 => ?_) fun ρ' m _ => pb_nil (k _ _)
  obtain ⟨S', c', o1, o2, o3, o4, o5, o6, h', hl', rfl, rfl⟩ := h3
  obtain ⟨h4, rfl⟩ := rngD_at h1 h2
  exact turn_ok F hr h' (by omega) fun S2 c2 _ _ _ _ _ _ g1 g2 g3 g4 => ⟨S2, c2, _, _, _, _, _, _, g1, by omega, rfl, rfl⟩
theorem law_ok (F : Fx P w K mg base) {fd : FuncData} (FD : FunD K "law" "law" (defArgs s_law) (defBody s_law) (defScope s_law) [] [] (He.fAd K ("law", none)) fd) : FnOk P w K mg base CX0 24 (He.fAd K ("law", none)) fd ["script"] (spLaw K w (Tb K) (fun _ => True)) := by
  have Fc := funC_of (p := ("law", none)) FD
  obtain ⟨oc, od, dV, kV, doc, pm, an, ct, osl, rfl, lk, hcd⟩ := Fc.ex
  refine fn_of lk hcd sc_law (fun vs H Q E h => ?_) (fun A outer s H vs Q E hr hsp => ?_)
  · obtain ⟨a, ns, rfl, _⟩ := h
    rfl
  · obtain ⟨a, ns, rfl, _, hS, hs, k⟩ := hsp
    obtain ⟨fr, Fr, br⟩ := (rounds_ok (T := Tb K) F).ex
    have nd := sc_law.nd
    have B : PSs (cxOf CX0 P w K mg base lawN "law" (defScope s_law) (He.fAd K ("law", none)) (.ref (He.codeOf K ("law", none))) A outer s H E).nox (defBody s_law) (fun Dd σ H => SqL K H a (ns.map V.int) ∧ tB w (Tb K) (slots lawN [.ref a]) [] (fun _ _ => False) (fun d _ => d = .bl true) Dd σ H) := psS_for (es := .Constant .none 0 ⟨0, 0, 0, 0⟩) (i0 := 0) (is := [1]) (unp := fun d => some [d]) (post := roundsPost) (ok := fun _ => True)
      Fr (hr.mono (by decide)) F.glo_law_rounds (rounds_ok (T := Tb K) F).kp br trivial rfl rfl (by first | exact Or.inl rfl | exact Or.inr (Or.inl rfl)) (by decide) (by decide)
      (fun d m ⟨p, z, e, _⟩ => ⟨_, e⟩) (pg_name (i := 1) nd rfl (by first | exact Or.inl rfl | exact Or.inr rfl)) (tgt_name 1)
      (fun ds i ρ' m => (i = 0 ∧ ρ' = slots lawN [.ref a] ∧ ∃ p z, ds = [.ref p] ∧ m = [some (p, .lst (diceD (diceOf z)))]) ∨ i = 1)
      (fun ds m ⟨p, z, e, e2⟩ => .inl ⟨rfl, rfl, p, z, by injection e, e2⟩) (fun ds m h i d e => ⟨_, rfl⟩)
      (fun ds m ⟨p, z, e, e2⟩ i d us ρ' M' h1 h2 h3 => by
        injection e with e
        subst e
        have hi : i = 0 := by
          have := (List.getElem?_eq_some_iff.mp h1).1
          simpa using this
        subst hi
        rcases h3 with ⟨_, rfl, p', z', e', rfl⟩ | h3
        · cases e'
          cases h1
          cases h2
          exact round_ok F hr fun _ _ => .inr rfl
        · cases h3)
      (fun ds m h ρ' M' h3 => pb_ret pd_bl rfl)
    refine ⟨_, (B).nox, hS, fun _ => none, hs, SL.start (.cons (.ref a) .nil), fun σ' G' H' ρ' M' n st hs' sl' => n.elim, fun v G' H' d M' n st hs' rd => ?_⟩
    subst n
    cases rd
    exact k H'
end
end H66

set_option Elab.async false
set_option linter.all false
set_option maxRecDepth 100000
set_option maxHeartbeats 0
/-! k66: the claim. -/
namespace H66
open PySem PySem.Spec PyProof.Rows L2 LW
theorem law_at {w : World} {K : PySem.W.Frag} {h : Heap} {mg : Str → Option Value} {f : Addr} (X : K.In h) (G : h.Ns mainGlobals mg) (hfa : mg ("law" : Str) = some (.ref f)) (c : He.SaysX fa fn [] tf (fun _ => true) w h K) :
    LamX.LawAtS PySem.Challenge.rw_lessonwright_k66_trees_said_to_a_desk w K L2.CX0 24 63 "script" mg f h := by
  have hd := c.t.d.defs (d := d_law) (by unfold fn; simp)
  obtain ⟨fd, FD⟩ := hd
  have e := hfa.symm.trans (He.glo_ok X G (c.t.d.facts (f := .glo "law") (List.mem_of_getElem? (i := 23) rfl)))
  cases e
  refine ⟨fd, tf.map (He.cT K), spLaw K w (Tb K) (fun _ => True), fun p hp => ?_, fun p hp => ?_, fun p hp => ?_, fun s u => ?_, fun H a ns _ _ ht hS => ?_, fun base hX hG hT => ?_⟩
  · obtain ⟨q, hq, rfl⟩ := List.mem_map.mp hp
    exact c.empty q hq
  · obtain ⟨q, hq, rfl⟩ := List.mem_map.mp hp
    exact c.out q hq
  · obtain ⟨q, hq, rfl⟩ := List.mem_map.mp hp
    exact PySem.W.codeHd_of_K X (c.hd q hq)
  · have b := FunD.bindsA (ps := ["script"]) FD fun _ _ _ _ _ _ us hl => match us, hl with | [_], _ => rfl
    exact b s [u] rfl
  · refine ⟨a, ns, rfl, trivial, hS, ⟨fun _ _ e => (by cases e), fun _ _ e => (by cases e), List.nodup_nil, fun _ _ h => (by cases h), fun P hP => ?_⟩, fun _ => rfl⟩
    obtain ⟨q, hq, rfl⟩ := List.mem_map.mp hP
    exact ⟨#[], ht q hq, trivial⟩
  · have F : Fx (PySem.Challenge.rw_lessonwright_k66_trees_said_to_a_desk).prog w K mg base := ⟨fun f hf => c.t.d.facts hf, fun d hd => c.t.d.defs hd, ⟨h, X, G⟩, fun p hp => hT _ (List.mem_map.mpr ⟨p, hp, rfl⟩)⟩
    exact law_ok F FD
end H66
open PySem PySem.W PySem.Calls PyProof.Rows
theorem PySem.Challenge.cw_lessonwright_k66_trees_said_to_a_desk_holds : PySem.Challenge.rw_lessonwright_k66_trees_said_to_a_desk.Holds := by
  w_on; o_law
  refine HandSHeadRun.head_any (r := OpenLaw.row PySem.Challenge.rw_lessonwright_k66_trees_said_to_a_desk) (q := view (OpenLaw.row PySem.Challenge.rw_lessonwright_k66_trees_said_to_a_desk).prog [43]) (H := H66.hk) (ob := H66.ob) (M := 20000) (loose := H66.names) (d := HandSHeadRun.topDef (OpenLaw.row PySem.Challenge.rw_lessonwright_k66_trees_said_to_a_desk).prog 43) (kwd := []) H66.ob_eq
    (by kernel_rfl) (fun s => by kernel_rfl) H66.run (by kernel_rfl) (by kernel_rfl) (by kernel_rfl) (by rfl) (by first | assumption | decide +kernel) (by decide +kernel) ⟨rfl, rfl, rfl, rfl, rfl, by decide +kernel⟩ ?hw ?hc
  case hw => w_witness2
  case hc =>
    refine LamX.walk_ofTsE (l := PySem.Challenge.rw_lessonwright_k66_trees_said_to_a_desk) (n := 63) (k := 24) (x := "script") (CX := fun _ => L2.CX0) rfl (by decide) (by kernel_rfl) ⟨rfl, by decide, by decide⟩ ?F (fun _ _ _ _ _ z => z)
    intro w mg fa h Y G hmg0
    obtain ⟨K, KX, c⟩ := Y
    have hmg : mg ("law" : PySem.Str) = some (.ref fa) := by
      have e : (HandSHeadRun.topDef (OpenLaw.row PySem.Challenge.rw_lessonwright_k66_trees_said_to_a_desk).prog 43).name = ("law" : PySem.Str) := by kernel_rfl
      rw [← e]
      exact hmg0
    exact ⟨K, KX, H66.law_at KX G hmg c⟩

