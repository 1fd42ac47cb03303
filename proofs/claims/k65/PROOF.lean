import PyProof.Rows.All
import Wide.All
import OpenK.AllK
import Wide.FinOn
import HandS.ForMost
import HandS.AnyAll
import HandS.Wide
import HandS.Conv
import KE.KDictKeyed
import KE.SortData
import HandS.TupAny
import HandS.TupMul
import KE.GoesEnum
import PyProof.CodeObjX
import HandS.GenOver
import HandS.Style
import HandS.Deep
import HandS.WideMore
import HandS.ReCall
import PyProof.FactsAll.list_0
import PyProof.FactsAll.dict_0
import PyProof.FactsAll.str_0
import KE.KDictOf
import KE.KDictZip
import KE.KDictSum
import KE.KDictCopyH
import KE.DataMinMax
import HandS.SortKw
import PyProof.SumAny
import HandS.Head0
import HandS.Head1
import HandS.Head2
import HandS.HeadEnd
import HandS.HeadHook1
import HandS.HeadHook2
import HandS.HeadHook3
import HandS.HeadHook4
import HandS.HeadWalk
import HandS.WordsExc
import KE.KStateDown
import PySem.Challenge.RW_lessonwright_k65_whole_mistakes_at_any_s
set_option Elab.async false
set_option linter.all false
set_option maxRecDepth 100000
set_option maxHeartbeats 2000000
/-! LA: data, the relation of values to data, the state, the judgement. -/
namespace LW
open PySem PySem.Spec PyProof.Rows L2

inductive D where
  | non | bl (b : Bool) | int (i : Int) | str (x : Str)
  | tup (ds : List D) | lst (ds : List D) | dic (kvs : List (D × D))
  | obj (C : Addr) (fs : List (Str × D)) | ref (a : Addr)

mutual
def D.nk : D → Option NestedKey
  | .non => some .none
  | .bl b => some (.num (if b = true then 1 else 0))
  | .int i => some (.num i)
  | .str x => some (.text x)
  | .tup ds => (D.nks ds).map .tup
  | .lst _ => none
  | .dic _ => none
  | .obj _ _ => none
  | .ref _ => none
def D.nks : List D → Option (List NestedKey)
  | [] => some []
  | d :: ds => match D.nk d, D.nks ds with
    | some k, some ks => some (k :: ks)
    | _, _ => none
end

/-- a dict object by its entries: hash, key, value -/
def dicO (a : Addr) (L : List (Int × V × V)) : HO := .ext fun h => ∃ (es : Array DictEntry) (ep : Nat),
  h.get? a = some { cls := .type "dict", dict := none, data := .dict es ep, slots := #[] } ∧ Paired (fun (x : Int × V × V) (e : DictEntry) => e.hash = x.1 ∧ RelV x.2.1 e.key ∧ RelV x.2.2 e.val) L es.toList

/-- the key's kind: all ints, all texts, all bools, all tuples -/
inductive KT where
  | i | s | b | t
def KT.of : KT → D → Bool
  | .i, .int _ => true
  | .s, .str _ => true
  | .b, .bl _ => true
  | .t, .tup _ => true
  | _, _ => false

structure DicOk (a : Addr) (kvs : List (D × D)) : Prop where
  sys : (a == sysModules) = false
  len : kvs.length ≤ sizeLine
  nd : (kvs.map fun p => p.1.nk).Nodup
  kind : ∃ t : KT, ∀ p ∈ kvs, t.of p.1 = true
  dep : ∀ p ∈ kvs, ∀ k, p.1.nk = some k → k.depth ≤ 8

mutual
inductive Dt (w : World) (G : Hp) : V → D → Prop
  | non : Dt w G .non .non
  | bl (b : Bool) : Dt w G (.bl b) (.bl b)
  | int (i : Int) : Dt w G (.int i) (.int i)
  | str (x : Str) : Dt w G (.str x) (.str x)
  | ref (a : Addr) : Dt w G (.ref a) (.ref a)
  | tup {a : Addr} {xs : List V} {ds : List D} : G a = some (.tup xs) → DtL w G xs ds → Dt w G (.ref a) (.tup ds)
  | lst {a : Addr} {xs : List V} {ds : List D} : G a = some (.lst xs) → DtL w G xs ds → Dt w G (.ref a) (.lst ds)
  | dic {a : Addr} {ob : Obj} {L : List (Int × V × V)} {kvs : List (D × D)} : G a = some (.frz ob (dicO a L)) → DtE w G L kvs → DicOk a kvs → Dt w G (.ref a) (.dic kvs)
  | obj {a C dx : Addr} {fs : List (Str × V)} {ds : List (Str × D)} : G a = some (.ins C dx fs) → DtF w G fs ds → Dt w G (.ref a) (.obj C ds)
inductive DtL (w : World) (G : Hp) : List V → List D → Prop
  | nil : DtL w G [] []
  | cons {v : V} {vs : List V} {d : D} {ds : List D} : Dt w G v d → DtL w G vs ds → DtL w G (v :: vs) (d :: ds)
inductive DtE (w : World) (G : Hp) : List (Int × V × V) → List (D × D) → Prop
  | nil : DtE w G [] []
  | cons {k v : V} {L : List (Int × V × V)} {dk dv : D} {nk : NestedKey} {kvs : List (D × D)} : dk.nk = some nk → Dt w G k dk → Dt w G v dv → DtE w G L kvs → DtE w G ((nk.hash w, k, v) :: L) ((dk, dv) :: kvs)
inductive DtF (w : World) (G : Hp) : List (Str × V) → List (Str × D) → Prop
  | nil : DtF w G [] []
  | cons {f : Str} {v : V} {fs : List (Str × V)} {d : D} {ds : List (Str × D)} : Dt w G v d → DtF w G fs ds → DtF w G ((f, v) :: fs) ((f, d) :: ds)
end

theorem Rd.up {G G' : Hp} (h : ∀ a o, G a = some o → G' a = some o) {a : Addr} {u : HO} : Rd G a u → Rd G' a u
  | .inl e => .inl (h _ _ e)
  | .inr ⟨o, e⟩ => .inr ⟨o, h _ _ e⟩
section
variable {w : World} {G G' : Hp}
mutual
theorem Dt.up (h : ∀ a o, G a = some o → G' a = some o) : ∀ {v : V} {d : D}, Dt w G v d → Dt w G' v d
  | _, _, .non => .non
  | _, _, .bl b => .bl b
  | _, _, .int i => .int i
  | _, _, .str x => .str x
  | _, _, .ref a => .ref a
  | _, _, .tup e r => .tup (h _ _ e) (DtL.up h r)
  | _, _, .lst e r => .lst (h _ _ e) (DtL.up h r)
  | _, _, .dic e r k => .dic (h _ _ e) (DtE.up h r) k
  | _, _, .obj e r => .obj (h _ _ e) (DtF.up h r)
theorem DtL.up (h : ∀ a o, G a = some o → G' a = some o) : ∀ {v : List V} {d : List D}, DtL w G v d → DtL w G' v d
  | _, _, .nil => .nil
  | _, _, .cons e r => .cons (Dt.up h e) (DtL.up h r)
theorem DtE.up (h : ∀ a o, G a = some o → G' a = some o) : ∀ {v : List (Int × V × V)} {d : List (D × D)}, DtE w G v d → DtE w G' v d
  | _, _, .nil => .nil
  | _, _, .cons q e1 e2 r => .cons q (Dt.up h e1) (Dt.up h e2) (DtE.up h r)
theorem DtF.up (h : ∀ a o, G a = some o → G' a = some o) : ∀ {v : List (Str × V)} {d : List (Str × D)}, DtF w G v d → DtF w G' v d
  | _, _, .nil => .nil
  | _, _, .cons e r => .cons (Dt.up h e) (DtF.up h r)
end
theorem DtL.length : ∀ {vs : List V} {ds : List D}, DtL w G vs ds → vs.length = ds.length
  | _, _, .nil => rfl
  | _, _, .cons _ r => congrArg (· + 1) (DtL.length r)
theorem DtL.get : ∀ {vs : List V} {ds : List D}, DtL w G vs ds → ∀ {i : Nat} {d : D}, ds[i]? = some d → ∃ v, vs[i]? = some v ∧ Dt w G v d
  | _, _, .nil, _, _, e => by simp at e
  | _, _, .cons h _, 0, _, e => by simp at e; subst e; exact ⟨_, rfl, h⟩
  | _, _, .cons _ r, i + 1, _, e => by
    obtain ⟨v, h1, h2⟩ := DtL.get r (i := i) (by simpa using e)
    exact ⟨v, by simpa using h1, h2⟩
theorem DtL.getV : ∀ {vs : List V} {ds : List D}, DtL w G vs ds → ∀ {i : Nat} {v : V}, vs[i]? = some v → ∃ d, ds[i]? = some d ∧ Dt w G v d
  | _, _, .nil, _, _, e => by simp at e
  | _, _, .cons h _, 0, _, e => by simp at e; subst e; exact ⟨_, rfl, h⟩
  | _, _, .cons _ r, i + 1, _, e => by
    obtain ⟨v, h1, h2⟩ := DtL.getV r (i := i) (by simpa using e)
    exact ⟨v, by simpa using h1, h2⟩
theorem DtL.app : ∀ {vs us : List V} {ds es : List D}, DtL w G vs ds → DtL w G us es → DtL w G (vs ++ us) (ds ++ es)
  | _, _, _, _, .nil, h => h
  | _, _, _, _, .cons e r, h => .cons e (DtL.app r h)
theorem DtL.drop : ∀ {vs : List V} {ds : List D} (n : Nat), DtL w G vs ds → DtL w G (vs.drop n) (ds.drop n)
  | _, _, 0, h => h
  | _, _, _ + 1, .nil => .nil
  | _, _, n + 1, .cons _ r => DtL.drop n r
theorem DtL.take : ∀ {vs : List V} {ds : List D} (n : Nat), DtL w G vs ds → DtL w G (vs.take n) (ds.take n)
  | _, _, 0, _ => .nil
  | _, _, _ + 1, .nil => .nil
  | _, _, n + 1, .cons e r => .cons e (DtL.take n r)
theorem DtL.set {v : V} {d : D} (q : Dt w G v d) : ∀ {vs : List V} {ds : List D} (i : Nat), DtL w G vs ds → DtL w G (vs.set i v) (ds.set i d)
  | _, _, _, .nil => .nil
  | _, _, 0, .cons _ r => .cons q r
  | _, _, i + 1, .cons e r => .cons e (DtL.set q i r)
theorem DtL.ints : ∀ {vs : List V} {ns : List Int}, DtL w G vs (ns.map D.int) → vs = ns.map V.int
  | _, [], h => by cases h; rfl
  | _, n :: ns, h => by
    cases h with
    | cons e r =>
      cases e
      rw [DtL.ints r]
      rfl
theorem DtL.ofInts : ∀ (ns : List Int), DtL w G (ns.map V.int) (ns.map D.int)
  | [] => .nil
  | n :: ns => .cons (.int n) (DtL.ofInts ns)
theorem DtL.bls : ∀ {vs : List V} {ns : List Bool}, DtL w G vs (ns.map D.bl) → vs = ns.map V.bl
  | _, [], h => by cases h; rfl
  | _, n :: ns, h => by
    cases h with
    | cons e r =>
      cases e
      rw [DtL.bls r]
      rfl
theorem DtL.strs : ∀ {vs : List V} {ns : List Str}, DtL w G vs (ns.map D.str) → vs = ns.map V.str
  | _, [], h => by cases h; rfl
  | _, n :: ns, h => by
    cases h with
    | cons e r =>
      cases e
      rw [DtL.strs r]
      rfl
theorem DtL.ofStrs : ∀ (ns : List Str), DtL w G (ns.map V.str) (ns.map D.str)
  | [] => .nil
  | n :: ns => .cons (.str n) (DtL.ofStrs ns)
theorem DtF.get : ∀ {fs : List (Str × V)} {ds : List (Str × D)}, DtF w G fs ds → ∀ {f : Str} {d : D}, ds.lookup f = some d → ∃ v, fs.lookup f = some v ∧ Dt w G v d
  | _, _, .nil, f, d, e => by cases e
  | _, _, .cons (f := g) h r, f, d, e => by
    rw [List.lookup_cons] at e ⊢
    cases hb : f == g with
    | true =>
      rw [hb] at e
      cases e
      exact ⟨_, rfl, h⟩
    | false =>
      rw [hb] at e
      exact DtF.get r e
theorem DtF.none : ∀ {fs : List (Str × V)} {ds : List (Str × D)}, DtF w G fs ds → ∀ {f : Str}, ds.lookup f = Option.none → fs.lookup f = Option.none
  | _, _, .nil, f, e => rfl
  | _, _, .cons (f := g) h r, f, e => by
    rw [List.lookup_cons] at e ⊢
    cases hb : f == g with
    | true =>
      rw [hb] at e
      cases e
    | false =>
      rw [hb] at e
      exact DtF.none r e
theorem DtF.length : ∀ {fs : List (Str × V)} {ds : List (Str × D)}, DtF w G fs ds → fs.length = ds.length
  | _, _, .nil => rfl
  | _, _, .cons _ r => congrArg (· + 1) (DtF.length r)
/-- the fields' data behind a store -/
def putD (f : Str) (d : D) : List (Str × D) → List (Str × D)
  | [] => [(f, d)]
  | (g, x) :: r => if g = f then (g, d) :: r else (g, x) :: putD f d r
theorem DtF.put {f : Str} {v : V} {d : D} (q : Dt w G v d) : ∀ {fs : List (Str × V)} {ds : List (Str × D)}, DtF w G fs ds → DtF w G (putF f v fs) (putD f d ds)
  | _, _, .nil => .cons q .nil
  | _, _, .cons (f := g) e r => by
    unfold putF putD
    by_cases h : g = f
    · rw [if_pos h, if_pos h]
      exact .cons q r
    · rw [if_neg h, if_neg h]
      exact .cons e (DtF.put q r)
end

/-! ### owned objects -/
inductive Ob where
  | lst (ds : List D) | dic (kvs : List (D × D)) | obj (C : Addr) (fs : List (Str × D))
abbrev Mem := List (Option (Addr × Ob))
def adr (M : Mem) : List Addr := M.filterMap fun x => x.map (·.1)
def ObOk (w : World) (G H : Hp) (p : Addr) : Ob → Prop
  | .lst ds => ∃ xs, H p = some (.lst xs) ∧ DtL w G xs ds
  | .dic kvs => ∃ L, H p = some (dicO p L) ∧ DtE w G L kvs ∧ DicOk p kvs
  | .obj C fs => ∃ dx ws, H p = some (.ins C dx ws) ∧ DtF w G ws fs
/-- the heap's part of a state -/
structure HS (w : World) (T : List Addr) (G H : Hp) (M : Mem) : Prop where
  sub : ∀ a o, G a = some o → H a = some o
  pur : ∀ a ps, G a ≠ some (.tbl ps)
  nd : (adr M).Nodup
  mem : ∀ p ob, some (p, ob) ∈ M → G p = none ∧ ObOk w G H p ob
  tab : ∀ P ∈ T, GxR.TabG H P
/-- the slots -/
structure SL (w : World) (G : Hp) (σ : L2.St) (ρ : List (Option D)) : Prop where
  len : σ.length = ρ.length
  at_ : ∀ (i : Nat) (d : D), ρ[i]? = some (some d) → ∃ v, σ[i]? = some (some v) ∧ Dt w G v d
def Kept (o : HO) (x : Option HO) : Prop := x = some o ∨ ∃ ps more, o = .tbl ps ∧ x = some (.tbl (ps ++ more))
structure Step (G H : Hp) (M : Mem) (G' H' : Hp) (M' : Mem) : Prop where
  up : ∀ a o, G a = some o → G' a = some o
  new : ∀ a o, G' a = some o → G a = some o ∨ H a = none ∨ a ∈ adr M
  keep : ∀ a o, H a = some o → a ∉ adr M → Kept o (H' a)
  adr_ : ∀ a ∈ adr M', a ∈ adr M ∨ H a = none

theorem Kept.refl (o : HO) : Kept o (some o) := .inl rfl
theorem Kept.some_of {o : HO} {x : Option HO} (h : Kept o x) : x ≠ none := by
  rcases h with e | ⟨_, _, _, e⟩ <;> rw [e] <;> exact fun q => by cases q
theorem Kept.trans {o : HO} {x y : Option HO} (h : Kept o x) (k : ∀ u, x = some u → Kept u y) : Kept o y := by
  rcases h with e | ⟨ps, more, e1, e2⟩
  · exact k _ e
  · rcases k _ e2 with e | ⟨ps', more', e3, e4⟩
    · exact .inr ⟨ps, more, e1, e⟩
    · cases e3
      exact .inr ⟨ps, more ++ more', e1, by rw [e4, Array.append_assoc]⟩
theorem Step.refl (G H : Hp) (M : Mem) : Step G H M G H M := ⟨fun _ _ e => e, fun _ _ e => .inl e, fun _ o e _ => .inl e, fun _ h => .inl h⟩
theorem Step.gone {G H : Hp} {M : Mem} {G' H' : Hp} {M' : Mem} (s : Step G H M G' H' M') {a : Addr} (e : H' a = Option.none) : H a = Option.none ∨ a ∈ adr M := by
  by_cases h : a ∈ adr M
  · exact .inr h
  · refine .inl ?_
    cases q : H a with
    | none => rfl
    | some o => exact absurd e (s.keep a o q h).some_of
theorem Step.trans {G H : Hp} {M : Mem} {G1 H1 : Hp} {M1 : Mem} {G2 H2 : Hp} {M2 : Mem} (s : Step G H M G1 H1 M1) (t : Step G1 H1 M1 G2 H2 M2) : Step G H M G2 H2 M2 where
  up := fun a o e => t.up a o (s.up a o e)
  new := fun a o e => by
    rcases t.new a o e with e | e | e
    · exact s.new a o e
    · rcases s.gone e with e | e
      · exact .inr (.inl e)
      · exact .inr (.inr e)
    · rcases s.adr_ a e with e | e
      · exact .inr (.inr e)
      · exact .inr (.inl e)
  keep := fun a o e n => by
    refine (s.keep a o e n).trans fun u q => t.keep a u q fun h => ?_
    rcases s.adr_ a h with h | h
    · exact n h
    · rw [e] at h
      cases h
  adr_ := fun a h => by
    rcases t.adr_ a h with h | h
    · exact s.adr_ a h
    · rcases s.gone h with h | h
      · exact .inr h
      · exact .inl h
section
variable {w : World} {T : List Addr} {G G' H H' : Hp} {M M' : Mem} {σ : L2.St} {ρ : List (Option D)} {v : V} {d : D}
theorem SL.up (h : ∀ a o, G a = some o → G' a = some o) (s : SL w G σ ρ) : SL w G' σ ρ :=
  ⟨s.len, fun i d e => let ⟨v, h1, h2⟩ := s.at_ i d e; ⟨v, h1, h2.up h⟩⟩
theorem SL.set (s : SL w G σ ρ) (i : Nat) (q : Dt w G v d) : SL w G (σ.set i (some v)) (ρ.set i (some d)) := by
  refine ⟨by rw [List.length_set, List.length_set]; exact s.len, fun j e hj => ?_⟩
  by_cases h : i = j
  · subst h
    by_cases hl : i < ρ.length
    · rw [List.getElem?_set_self hl] at hj
      cases hj
      exact ⟨v, List.getElem?_set_self (by rw [s.len]; exact hl), q⟩
    · rw [List.getElem?_eq_none (by rw [List.length_set]; omega)] at hj
      cases hj
  · rw [List.getElem?_set_ne h] at hj ⊢
    exact s.at_ j e hj
theorem adr_mem {p : Addr} {ob : Ob} (h : some (p, ob) ∈ M) : p ∈ adr M := List.mem_filterMap.mpr ⟨_, h, rfl⟩
theorem mem_adr {p : Addr} (h : p ∈ adr M) : ∃ ob, some (p, ob) ∈ M := by
  obtain ⟨x, h1, h2⟩ := List.mem_filterMap.mp h
  cases x with
  | none => cases h2
  | some q =>
    cases h2
    exact ⟨q.2, h1⟩
theorem ObOk.there {p : Addr} {ob : Ob} (h : ObOk w G H p ob) : ∃ o, H p = some o ∧ Mut (some o) ∧ (∀ ps, o ≠ .tbl ps) ∧ ∀ xs, o ≠ .tup xs := by
  cases ob with
  | lst ds => obtain ⟨xs, e, _⟩ := h; exact ⟨_, e, trivial, (fun _ q => by cases q), (fun _ q => by cases q)⟩
  | dic kvs => obtain ⟨L, e, _⟩ := h; exact ⟨_, e, trivial, (fun _ q => by cases q), (fun _ q => by cases q)⟩
  | obj C fs => obtain ⟨dx, ws, e, _⟩ := h; exact ⟨_, e, trivial, (fun _ q => by cases q), (fun _ q => by cases q)⟩
theorem HS.adr_some (s : HS w T G H M) {p : Addr} (h : p ∈ adr M) : ∃ o, H p = some o := by
  obtain ⟨ob, q⟩ := mem_adr h
  obtain ⟨o, e, _⟩ := (s.mem p ob q).2.there
  exact ⟨o, e⟩
theorem HS.fresh (s : HS w T G H M) {p : Addr} (h : H p = none) : p ∉ adr M := fun q => by
  obtain ⟨o, e⟩ := s.adr_some q
  rw [h] at e
  cases e
theorem HS.freshG (s : HS w T G H M) {p : Addr} (h : H p = none) : G p = none := by
  cases e : G p with
  | none => rfl
  | some o =>
    rw [s.sub p o e] at h
    cases h
theorem ObOk.mono {p : Addr} {ob : Ob} (hG : ∀ a o, G a = some o → G' a = some o) (hH : H' p = H p) (h : ObOk w G H p ob) : ObOk w G' H' p ob := by
  cases ob with
  | lst ds => obtain ⟨xs, e, r⟩ := h; exact ⟨xs, by rw [hH]; exact e, r.up hG⟩
  | dic kvs => obtain ⟨L, e, r, k⟩ := h; exact ⟨L, by rw [hH]; exact e, r.up hG, k⟩
  | obj C fs => obtain ⟨dx, ws, e, r⟩ := h; exact ⟨dx, ws, by rw [hH]; exact e, r.up hG⟩
theorem up_upd {G : Hp} {p : Addr} {o : HO} (h : G p = none) : ∀ a u, G a = some u → upd G p o a = some u := fun a u e => by
  rw [upd_ne (ne_of_none e h)]
  exact e
theorem TabG.upd {H : Hp} {P p : Addr} {o : HO} (t : GxR.TabG H P) (h : ∀ ps, H p ≠ some (.tbl ps)) : GxR.TabG (upd H p o) P := by
  obtain ⟨ps, e, k⟩ := t
  refine ⟨ps, ?_, k⟩
  rw [upd_ne fun q => h ps (by rw [← q]; exact e)]
  exact e
/-- a new immutable object -/
theorem HS.new (s : HS w T G H M) {p : Addr} {o : HO} (hp : H p = none) (ho : ∀ ps, o ≠ .tbl ps) : HS w T (upd G p o) (upd H p o) M := by
  have gp := s.freshG hp
  refine ⟨fun a u e => ?_, fun a ps e => ?_, s.nd, fun q ob h => ?_, fun P hP => TabG.upd (s.tab P hP) fun ps q => by rw [hp] at q; cases q⟩
  · by_cases h : a = p
    · subst h
      rw [upd_same] at e ⊢
      exact e
    · rw [upd_ne h] at e ⊢
      exact s.sub a u e
  · by_cases h : a = p
    · subst h
      rw [upd_same] at e
      exact ho ps (Option.some.inj e)
    · rw [upd_ne h] at e
      exact s.pur a ps e
  · have nq : q ≠ p := fun z => s.fresh hp (z ▸ adr_mem h)
    obtain ⟨h1, h2⟩ := s.mem q ob h
    exact ⟨by rw [upd_ne nq]; exact h1, h2.mono (up_upd gp) (upd_ne nq)⟩
theorem Step.newI (s : HS w T G H M) {p : Addr} {o : HO} (hp : H p = none) : Step G H M (upd G p o) (upd H p o) M := by
  have gp := s.freshG hp
  refine ⟨up_upd gp, fun a u e => ?_, fun a u e n => ?_, fun a h => .inl h⟩
  · by_cases h : a = p
    · subst h
      exact .inr (.inl hp)
    · rw [upd_ne h] at e
      exact .inl e
  · rw [upd_ne (ne_of_none e hp)]
    exact .inl e
end

/-! ### the judgement for expressions -/
def tE (w : World) (T : List Addr) (ρ : List (Option D)) (M : Mem) (d : D) (M' : Mem) : TE := fun σ H Q => ∃ G, HS w T G H M ∧ SL w G σ ρ ∧
  ∀ v G' H', Step G H M G' H' M' → HS w T G' H' M' → Dt w G' v d → Q v H'
def tEL (w : World) (T : List Addr) (ρ : List (Option D)) (M : Mem) (ds : List D) (M' : Mem) : TA := fun σ H Q => ∃ G, HS w T G H M ∧ SL w G σ ρ ∧
  ∀ vs G' H', Step G H M G' H' M' → HS w T G' H' M' → DtL w G' vs ds → Q vs H'
def tET (w : World) (T : List Addr) (ρ : List (Option D)) (M : Mem) (b : Bool) (M' : Mem) : TT := fun σ H Q => ∃ G, HS w T G H M ∧ SL w G σ ρ ∧
  ∀ G' H', Step G H M G' H' M' → HS w T G' H' M' → Q b H'
/-- e gives d -/
abbrev PD (X : Cx) (T : List Addr) (ρ : List (Option D)) (M : Mem) (e : Expr) (d : D) (M' : Mem) : Prop := PE X e (tE X.w T ρ M d M')
abbrev PDL (X : Cx) (T : List Addr) (ρ : List (Option D)) (M : Mem) (es : List Expr) (ds : List D) (M' : Mem) : Prop := PA X es (tEL X.w T ρ M ds M')
abbrev PDT (X : Cx) (T : List Addr) (ρ : List (Option D)) (M : Mem) (e : Expr) (b : Bool) (M' : Mem) : Prop := PT X e (tET X.w T ρ M b M')

theorem _root_.L2.PE.imp {X : Cx} {e : Expr} {t t' : TE} (h : PE X e t) (k : ∀ σ H Q, t' σ H Q → t σ H Q) : PE X e t' :=
  ⟨fun pins s σ H Q I q => h.run pins s σ H Q I (k _ _ _ q)⟩
theorem _root_.L2.PT.imp {X : Cx} {e : Expr} {t t' : TT} (h : PT X e t) (k : ∀ σ H Q, t' σ H Q → t σ H Q) : PT X e t' :=
  ⟨fun pins s σ H Q I q => h.run pins s σ H Q I (k _ _ _ q)⟩
theorem _root_.L2.PA.imp {X : Cx} {e : List Expr} {t t' : TA} (h : PA X e t) (k : ∀ σ H Q, t' σ H Q → t σ H Q) : PA X e t' :=
  ⟨fun pos pins s σ H Q I q => h.run pos pins s σ H Q I (k _ _ _ q)⟩
theorem _root_.L2.PS.imp {X : Cx} {e : Stmt} {t t' : TS} (h : PS X e t) (k : ∀ D σ H, t' D σ H → t D σ H) : PS X e t' :=
  ⟨fun pins s σ H D I q => h.run pins s σ H D I (k _ _ _ q)⟩
theorem _root_.L2.PSs.imp {X : Cx} {e : List Stmt} {t t' : TS} (h : PSs X e t) (k : ∀ D σ H, t' D σ H → t D σ H) : PSs X e t' :=
  ⟨fun pins s σ H D I q => h.run pins s σ H D I (k _ _ _ q)⟩
theorem _root_.L2.PE.ex {X : Cx} {e : Expr} {α : Type} {t : α → TE} (h : ∀ x, PE X e (t x)) : PE X e (fun σ H Q => ∃ x, t x σ H Q) :=
  ⟨fun pins s σ H Q I ⟨x, q⟩ => (h x).run pins s σ H Q I q⟩
theorem _root_.L2.PSs.ex {X : Cx} {e : List Stmt} {α : Type} {t : α → TS} (h : ∀ x, PSs X e (t x)) : PSs X e (fun D σ H => ∃ x, t x D σ H) :=
  ⟨fun pins s σ H D I ⟨x, q⟩ => (h x).run pins s σ H D I q⟩
end LW

set_option Elab.async false
set_option linter.all false
set_option maxRecDepth 100000
set_option maxHeartbeats 2000000
/-! LB: rules of expressions. -/
namespace LW
open PySem PySem.Spec PyProof.Rows L2
section
variable {X : Cx} {T : List Addr} {ρ : List (Option D)} {M M1 M2 M3 : Mem} {d da db dc : D} {a b c e : Expr} {es : List Expr} {pos : Pos}

def OkR2 (w : World) (T : List Addr) (M : Mem) (r : R2) (da db d : D) : Prop := ∀ (G H : Hp) (v u : V) (Q : VK), HS w T G H M → Dt w G v da → Dt w G u db →
  (∀ z G' H', Step G H M G' H' M → HS w T G' H' M → Dt w G' z d → Q z H') → r v u H Q
def OkC (w : World) (T : List Addr) (M : Mem) (r : List V → Hp → VK → Prop) (ds : List D) (d : D) : Prop := ∀ (G H : Hp) (vs : List V) (Q : VK), HS w T G H M → DtL w G vs ds →
  (∀ z G' H', Step G H M G' H' M → HS w T G' H' M → Dt w G' z d → Q z H') → r vs H Q

theorem pd_cast {d' : D} (h : PD X T ρ M e d M1) (q : d = d') : PD X T ρ M e d' M1 := q ▸ h
theorem pdt_cast {k k' : Bool} (h : PDT X T ρ M e k M1) (q : k = k') : PDT X T ρ M e k' M1 := q ▸ h

theorem pd_var (i : Nat) {x : Str} (hd : ρ[i]? = some (some d) := by rfl) (hN : X.N[i]? = some x := by rfl) (hv : Vis X.env.scope x := by first | exact Or.inl rfl | exact Or.inr (Or.inl rfl) | exact Or.inr (Or.inr rfl))
    (h1 : (x == ("__debug__" : Str)) = false := by decide) (h2 : (x == ("__classdict__" : Str)) = false := by decide) : PD X T ρ M (.Name x pos) d M :=
  (pv i hN hv h1 h2).imp fun σ H Q ⟨G, hs, sl, k⟩ => by
    obtain ⟨v, e, r⟩ := sl.at_ i d hd
    exact ⟨v, e, k v G H (Step.refl _ _ _) hs r⟩
theorem pd_int {i : Int} {j : Nat} : PD X T ρ M (.Constant (.int i) j pos) (.int i) M :=
  pe_int.imp fun σ H Q ⟨G, hs, sl, k⟩ => k _ G H (Step.refl _ _ _) hs (.int i)
theorem pd_bl {i : Bool} {j : Nat} : PD X T ρ M (.Constant (.bool i) j pos) (.bl i) M :=
  pe_bl.imp fun σ H Q ⟨G, hs, sl, k⟩ => k _ G H (Step.refl _ _ _) hs (.bl i)
theorem pd_non {j : Nat} : PD X T ρ M (.Constant .none j pos) .non M :=
  pe_non.imp fun σ H Q ⟨G, hs, sl, k⟩ => k _ G H (Step.refl _ _ _) hs .non
theorem pd_str {x : Str} {j : Nat} : PD X T ρ M (.Constant (.str x) j pos) (.str x) M :=
  pe_str.imp fun σ H Q ⟨G, hs, sl, k⟩ => k _ G H (Step.refl _ _ _) hs (.str x)
/-- a global value that is a reference (a class, a def), or a constant -/
theorem pd_globI {x : Str} {i : Int} {t : Tok} (hm : X.mg x = some (.int i t)) (hg : Gl X x := by rfl) (h1 : (x == ("__debug__" : Str)) = false := by decide) : PD X T ρ M (.Name x pos) (.int i) M :=
  (pe_glob (v := .int i) hg hm ⟨t, rfl⟩ h1).imp fun σ H Q ⟨G, hs, sl, k⟩ => k _ G H (Step.refl _ _ _) hs (.int i)
theorem pd_globS {x : Str} {i : Str} {t : Tok} (hm : X.mg x = some (.str i t)) (hg : Gl X x := by rfl) (h1 : (x == ("__debug__" : Str)) = false := by decide) : PD X T ρ M (.Name x pos) (.str i) M :=
  (pe_glob (v := .str i) hg hm ⟨t, rfl⟩ h1).imp fun σ H Q ⟨G, hs, sl, k⟩ => k _ G H (Step.refl _ _ _) hs (.str i)

/-- two in a row, then an operation by values -/
theorem two_in {ta tb : TE} {r : R2} (hr : OkR2 X.w T M2 r da db d) (σ : L2.St) (H : Hp) (Q : VK) (h : tE X.w T ρ M d M2 σ H Q) :
    tOp r (tE X.w T ρ M da M1) (tE X.w T ρ M1 db M2) σ H Q := by
  obtain ⟨G, hs, sl, k⟩ := h
  refine ⟨G, hs, sl, fun v G1 H1 st1 hs1 r1 => ⟨G1, hs1, sl.up st1.up, fun u G2 H2 st2 hs2 r2 => ?_⟩⟩
  exact hr G2 H2 v u Q hs2 (r1.up st2.up) r2 fun z G' H' st hs' rz => k z G' H' ((st1.trans st2).trans st) hs' rz
theorem pd_op {op : Operator} {r : R2} (ho : OpR X (binaryOp op) r) (hr : OkR2 X.w T M2 r da db d) (ha : PD X T ρ M a da M1) (hb : PD X T ρ M1 b db M2) : PD X T ρ M (.BinOp a op b pos) d M2 :=
  (pe_op ho ha hb).imp fun σ H Q h => two_in (ta := tE X.w T ρ M da M1) (tb := tE X.w T ρ M1 db M2) hr σ H Q h
theorem pd_cmp {op : CmpOp} {r : R2} (ho : OpR X (compareOp op) r) (hr : OkR2 X.w T M2 r da db d) (ha : PD X T ρ M a da M1) (hb : PD X T ρ M1 b db M2) (hm : behindInMarks op b = false := by first | exact nomark _ | rfl | with_unfolding_all rfl) : PD X T ρ M (.Compare a [op] [b] pos) d M2 :=
  (pe_cmpR ho ha hb hm).imp fun σ H Q h => two_in (ta := tE X.w T ρ M da M1) (tb := tE X.w T ρ M1 db M2) hr σ H Q h
theorem pdt_cmp {op : CmpOp} {r : R2} {k : Bool} (ho : OpR X (compareOp op) r) (hr : OkR2 X.w T M2 r da db (.bl k)) (ha : PD X T ρ M a da M1) (hb : PD X T ρ M1 b db M2) (hm : behindInMarks op b = false := by first | exact nomark _ | rfl | with_unfolding_all rfl) : PDT X T ρ M (.Compare a [op] [b] pos) k M2 :=
  (pt_cmpR ho ha hb hm).imp fun σ H Q h => by
    obtain ⟨G, hs, sl, q⟩ := h
    refine two_in (ta := tE X.w T ρ M da M1) (tb := tE X.w T ρ M1 db M2) hr σ H _ ⟨G, hs, sl, fun z G' H' st hs' rz => ?_⟩
    cases rz
    exact ⟨k, rfl, q G' H' st hs'⟩
/-- any expression that is a bool, as a test -/
theorem pdt_val {k : Bool} (h : PD X T ρ M e (.bl k) M1) (he : ∀ whole, isTrue e X.env whole = (do let v ← whole; standAt e.pos; holding [v] (truthy v)) := by intro _; rfl) : PDT X T ρ M e k M1 :=
  (pt_val h he).imp fun σ H Q ⟨G, hs, sl, q⟩ => ⟨G, hs, sl, fun v G' H' st hs' r => by cases r; exact ⟨k, rfl, q G' H' st hs'⟩⟩
theorem pdt_not {k : Bool} (h : PDT X T ρ M e k M1) : PDT X T ρ M (.UnaryOp .Not e pos) (!k) M1 :=
  (pt_not h).imp fun σ H Q ⟨G, hs, sl, q⟩ => ⟨G, hs, sl, fun G' H' st hs' => q G' H' st hs'⟩
theorem pd_not {k : Bool} (h : PD X T ρ M e (.bl k) M1) : PD X T ρ M (.UnaryOp .Not e pos) (.bl (!k)) M1 :=
  (pe_not h).imp fun σ H Q ⟨G, hs, sl, q⟩ => ⟨G, hs, sl, fun v G' H' st hs' r => by cases r; exact ⟨k, rfl, q _ G' H' st hs' (.bl _)⟩⟩
/-! and, or: nothing is changed by the parts -/
abbrev PDW (X : Cx) (T : List Addr) (ρ : List (Option D)) (M : Mem) (e : Expr) (k : Bool) (M' : Mem) : Prop := PW X e (tET X.w T ρ M k M')
theorem pdw_and1 {k : Bool} (h : PDT X T ρ M a k M1) : PDW X T ρ M (.BoolOp .And [a] pos) k M1 := pw_and1 h
theorem pdw_or1 {k : Bool} (h : PDT X T ρ M a k M1) : PDW X T ρ M (.BoolOp .Or [a] pos) k M1 := pw_or1 h
theorem _root_.L2.PW.imp {t t' : TT} (h : PW X e t) (k : ∀ σ H Q, t' σ H Q → t σ H Q) : PW X e t' :=
  ⟨fun whole pins s σ H Q I q => h.run whole pins s σ H Q I (k _ _ _ q)⟩
theorem _root_.L2.PW.exB {t : TT} {P : Prop} [Decidable P] (h : P → PW X e t) : PW X e (fun σ H Q => P ∧ t σ H Q) :=
  ⟨fun whole pins s σ H Q I q => (h q.1).run whole pins s σ H Q I q.2⟩
theorem _root_.L2.PE.exB {t : TE} {P : Prop} (h : P → PE X e t) : PE X e (fun σ H Q => P ∧ t σ H Q) :=
  ⟨fun pins s σ H Q I q => (h q.1).run pins s σ H Q I q.2⟩
theorem _root_.L2.PT.exB {t : TT} {P : Prop} (h : P → PT X e t) : PT X e (fun σ H Q => P ∧ t σ H Q) :=
  ⟨fun pins s σ H Q I q => (h q.1).run pins s σ H Q I q.2⟩
theorem _root_.L2.PSs.exB {sts : List Stmt} {t : TS} {P : Prop} (h : P → PSs X sts t) : PSs X sts (fun D σ H => P ∧ t D σ H) :=
  ⟨fun pins s σ H D I q => (h q.1).run pins s σ H D I q.2⟩
theorem pdw_and {k l : Bool} {rest : List Expr} (ha : PDT X T ρ M a k M1) (hb : k = true → PDW X T ρ M1 (.BoolOp .And (b :: rest) pos) l M1) : PDW X T ρ M (.BoolOp .And (a :: b :: rest) pos) (k && l) M1 :=
  (pw_and ha (PW.exB (P := k = true) hb)).imp fun σ H Q ⟨G, hs, sl, q⟩ => ⟨G, hs, sl, fun G1 H1 st hs1 => by
    cases k with
    | false => exact q G1 H1 st hs1
    | true => exact ⟨rfl, G1, hs1, sl.up st.up, fun G2 H2 st2 hs2 => q G2 H2 (st.trans st2) hs2⟩⟩
theorem pdw_or {k l : Bool} {rest : List Expr} (ha : PDT X T ρ M a k M1) (hb : k = false → PDW X T ρ M1 (.BoolOp .Or (b :: rest) pos) l M1) : PDW X T ρ M (.BoolOp .Or (a :: b :: rest) pos) (k || l) M1 :=
  (pw_or ha (PW.exB (P := k = false) hb)).imp fun σ H Q ⟨G, hs, sl, q⟩ => ⟨G, hs, sl, fun G1 H1 st hs1 => by
    cases k with
    | true => exact q G1 H1 st hs1
    | false => exact ⟨rfl, G1, hs1, sl.up st.up, fun G2 H2 st2 hs2 => q G2 H2 (st.trans st2) hs2⟩⟩
theorem pdt_and {k l : Bool} (ha : PDT X T ρ M a k M1) (hb : k = true → PDT X T ρ M1 b l M1) : PDT X T ρ M (.BoolOp .And [a, b] pos) (k && l) M1 := PW.pt (pdw_and ha fun q => pdw_and1 (hb q))
theorem pdt_or {k l : Bool} (ha : PDT X T ρ M a k M1) (hb : k = false → PDT X T ρ M1 b l M1) : PDT X T ρ M (.BoolOp .Or [a, b] pos) (k || l) M1 := PW.pt (pdw_or ha fun q => pdw_or1 (hb q))
theorem pd_one {op : BoolOp} (h : PD X T ρ M a d M1) : PD X T ρ M (.BoolOp op [a] pos) d M1 := pe_one h
theorem pd_and {k l : Bool} {rest : List Expr} (ha : PD X T ρ M a (.bl k) M1) (hb : k = true → PD X T ρ M1 (.BoolOp .And (b :: rest) pos) (.bl l) M1) : PD X T ρ M (.BoolOp .And (a :: b :: rest) pos) (.bl (k && l)) M1 :=
  (pe_and ha (PE.exB (P := k = true) hb)).imp fun σ H Q ⟨G, hs, sl, q⟩ => ⟨G, hs, sl, fun v G1 H1 st hs1 r => by
    cases r
    cases k with
    | false => exact ⟨_, rfl, q _ G1 H1 st hs1 (.bl _)⟩
    | true => exact ⟨_, rfl, rfl, G1, hs1, sl.up st.up, fun v2 G2 H2 st2 hs2 r2 => q v2 G2 H2 (st.trans st2) hs2 r2⟩⟩
theorem pd_or {k l : Bool} {rest : List Expr} (ha : PD X T ρ M a (.bl k) M1) (hb : k = false → PD X T ρ M1 (.BoolOp .Or (b :: rest) pos) (.bl l) M1) : PD X T ρ M (.BoolOp .Or (a :: b :: rest) pos) (.bl (k || l)) M1 :=
  (pe_or ha (PE.exB (P := k = false) hb)).imp fun σ H Q ⟨G, hs, sl, q⟩ => ⟨G, hs, sl, fun v G1 H1 st hs1 r => by
    cases r
    cases k with
    | true => exact ⟨_, rfl, q _ G1 H1 st hs1 (.bl _)⟩
    | false => exact ⟨_, rfl, rfl, G1, hs1, sl.up st.up, fun v2 G2 H2 st2 hs2 r2 => q v2 G2 H2 (st.trans st2) hs2 r2⟩⟩
theorem pd_and2 {k l : Bool} (ha : PD X T ρ M a (.bl k) M1) (hb : k = true → PD X T ρ M1 b (.bl l) M1) : PD X T ρ M (.BoolOp .And [a, b] pos) (.bl (k && l)) M1 := pd_and ha fun q => pd_one (hb q)
theorem pd_or2 {k l : Bool} (ha : PD X T ρ M a (.bl k) M1) (hb : k = false → PD X T ρ M1 b (.bl l) M1) : PD X T ρ M (.BoolOp .Or [a, b] pos) (.bl (k || l)) M1 := pd_or ha fun q => pd_one (hb q)
/-- a if c else b -/
theorem pd_if {k : Bool} {d1 d2 : D} (hc : PDT X T ρ M c k M1) (h1 : k = true → PD X T ρ M1 a d1 M2) (h2 : k = false → PD X T ρ M1 b d2 M2) : PD X T ρ M (.IfExp c a b pos) (if k = true then d1 else d2) M2 :=
  (pe_ifExp hc (PE.exB (P := k = true) h1) (PE.exB (P := k = false) h2)).imp fun σ H Q ⟨G, hs, sl, q⟩ => ⟨G, hs, sl, fun G1 H1 st hs1 => by
    cases k with
    | true => exact ⟨rfl, G1, hs1, sl.up st.up, fun v2 G2 H2 st2 hs2 r2 => q v2 G2 H2 (st.trans st2) hs2 r2⟩
    | false => exact ⟨rfl, G1, hs1, sl.up st.up, fun v2 G2 H2 st2 hs2 r2 => q v2 G2 H2 (st.trans st2) hs2 r2⟩⟩
theorem pd_ifc {k : Bool} {d : D} (hc : PDT X T ρ M c k M1) (h1 : k = true → PD X T ρ M1 a d M2) (h2 : k = false → PD X T ρ M1 b d M2) : PD X T ρ M (.IfExp c a b pos) d M2 :=
  pd_cast (pd_if hc h1 h2) (by cases k <;> rfl)
/-! ints -/
theorem ok_i0 {g : Int → Int → Int} {i j : Int} {w : World} : OkR2 w T M (rI0 fun i j => .int (g i j)) (.int i) (.int j) (.int (g i j)) := fun G H v u Q hs r1 r2 k => by
  cases r1
  cases r2
  exact ⟨i, j, rfl, rfl, k _ G H (Step.refl _ _ _) hs (.int _)⟩
theorem ok_ib {g : Int → Int → Bool} {i j : Int} {w : World} : OkR2 w T M (rI0 fun i j => .bl (g i j)) (.int i) (.int j) (.bl (g i j)) := fun G H v u Q hs r1 r2 k => by
  cases r1
  cases r2
  exact ⟨i, j, rfl, rfl, k _ G H (Step.refl _ _ _) hs (.bl _)⟩
theorem ok_i {C : Int → Int → Prop} {g : Int → Int → Int} {i j : Int} {w : World} (h : C i j) : OkR2 w T M (rI C fun i j => .int (g i j)) (.int i) (.int j) (.int (g i j)) := fun G H v u Q hs r1 r2 k => by
  cases r1
  cases r2
  exact ⟨i, j, rfl, rfl, h, k _ G H (Step.refl _ _ _) hs (.int _)⟩
variable {i j : Int}
theorem pd_add (ha : PD X T ρ M a (.int i) M1) (hb : PD X T ρ M1 b (.int j) M2) : PD X T ρ M (.BinOp a .Add b pos) (.int (i + j)) M2 := pd_op op_add ok_i0 ha hb
theorem pd_sub (ha : PD X T ρ M a (.int i) M1) (hb : PD X T ρ M1 b (.int j) M2) : PD X T ρ M (.BinOp a .Sub b pos) (.int (i - j)) M2 := pd_op op_sub ok_i0 ha hb
theorem pd_mul (h : CMul i j) (ha : PD X T ρ M a (.int i) M1) (hb : PD X T ρ M1 b (.int j) M2) : PD X T ρ M (.BinOp a .Mult b pos) (.int (i * j)) M2 := pd_op op_mul (ok_i h) ha hb
theorem pd_mulW (h : CMulW i j) (ha : PD X T ρ M a (.int i) M1) (hb : PD X T ρ M1 b (.int j) M2) : PD X T ρ M (.BinOp a .Mult b pos) (.int (i * j)) M2 := pd_op op_mulW (ok_i h) ha hb
theorem pd_fdiv (h : CDiv i j) (ha : PD X T ρ M a (.int i) M1) (hb : PD X T ρ M1 b (.int j) M2) : PD X T ρ M (.BinOp a .FloorDiv b pos) (.int (i / j)) M2 := pd_op op_fdiv (ok_i h) ha hb
theorem pd_fdivW (h : CDivW i j) (ha : PD X T ρ M a (.int i) M1) (hb : PD X T ρ M1 b (.int j) M2) : PD X T ρ M (.BinOp a .FloorDiv b pos) (.int (i / j)) M2 := pd_op op_fdivW (ok_i h) ha hb
theorem pd_mod (h : 0 < j) (ha : PD X T ρ M a (.int i) M1) (hb : PD X T ρ M1 b (.int j) M2) : PD X T ρ M (.BinOp a .Mod b pos) (.int (i % j)) M2 := pd_op op_mod (ok_i (C := fun _ j => 0 < j) h) ha hb
theorem pd_pow (h : CPow i j) (ha : PD X T ρ M a (.int i) M1) (hb : PD X T ρ M1 b (.int j) M2) : PD X T ρ M (.BinOp a .Pow b pos) (.int (i ^ j.toNat)) M2 := pd_op op_pow (ok_i h) ha hb
theorem pd_lt (ha : PD X T ρ M a (.int i) M1) (hb : PD X T ρ M1 b (.int j) M2) : PD X T ρ M (.Compare a [.Lt] [b] pos) (.bl (decide (i < j))) M2 := pd_cmp op_lt ok_ib ha hb
theorem pd_le (ha : PD X T ρ M a (.int i) M1) (hb : PD X T ρ M1 b (.int j) M2) : PD X T ρ M (.Compare a [.LtE] [b] pos) (.bl (decide (i ≤ j))) M2 := pd_cmp op_le ok_ib ha hb
theorem pd_gt (ha : PD X T ρ M a (.int i) M1) (hb : PD X T ρ M1 b (.int j) M2) : PD X T ρ M (.Compare a [.Gt] [b] pos) (.bl (decide (j < i))) M2 := pd_cmp op_gt ok_ib ha hb
theorem pd_ge (ha : PD X T ρ M a (.int i) M1) (hb : PD X T ρ M1 b (.int j) M2) : PD X T ρ M (.Compare a [.GtE] [b] pos) (.bl (decide (j ≤ i))) M2 := pd_cmp op_ge ok_ib ha hb
theorem pdt_lt (ha : PD X T ρ M a (.int i) M1) (hb : PD X T ρ M1 b (.int j) M2) : PDT X T ρ M (.Compare a [.Lt] [b] pos) (decide (i < j)) M2 := pdt_cmp op_lt ok_ib ha hb
theorem pdt_le (ha : PD X T ρ M a (.int i) M1) (hb : PD X T ρ M1 b (.int j) M2) : PDT X T ρ M (.Compare a [.LtE] [b] pos) (decide (i ≤ j)) M2 := pdt_cmp op_le ok_ib ha hb
theorem pdt_gt (ha : PD X T ρ M a (.int i) M1) (hb : PD X T ρ M1 b (.int j) M2) : PDT X T ρ M (.Compare a [.Gt] [b] pos) (decide (j < i)) M2 := pdt_cmp op_gt ok_ib ha hb
theorem pdt_ge (ha : PD X T ρ M a (.int i) M1) (hb : PD X T ρ M1 b (.int j) M2) : PDT X T ρ M (.Compare a [.GtE] [b] pos) (decide (j ≤ i)) M2 := pdt_cmp op_ge ok_ib ha hb
/-! scalars: ==, != -/
def D.sv : D → Option V
  | .non => some .non
  | .bl b => some (.bl b)
  | .int i => some (.int i)
  | .str x => some (.str x)
  | _ => none
theorem Dt.sv {w : World} {G : Hp} {v x : V} {d : D} (h : Dt w G v d) (e : d.sv = some x) : v = x := by
  cases h <;> first | (cases e; rfl) | cases e
theorem ok_eq {w : World} {x y : V} {k : Bool} (hx : da.sv = some x) (hy : db.sv = some y) (hs : scal x y = true) (hk : decide (x = y) = k) : OkR2 w T M rEq da db (.bl k) := fun G H v u Q hs' r1 r2 q => by
  cases r1.sv hx
  cases r2.sv hy
  subst hk
  exact ⟨hs, q _ G H (Step.refl _ _ _) hs' (.bl _)⟩
theorem ok_ne {w : World} {x y : V} {k : Bool} (hx : da.sv = some x) (hy : db.sv = some y) (hs : scal x y = true) (hk : (!decide (x = y)) = k) : OkR2 w T M rNe da db (.bl k) := fun G H v u Q hs' r1 r2 q => by
  cases r1.sv hx
  cases r2.sv hy
  subst hk
  exact ⟨hs, q _ G H (Step.refl _ _ _) hs' (.bl _)⟩
theorem vi_eq {i j : Int} : decide (V.int i = V.int j) = decide (i = j) := by
  by_cases h : i = j
  · subst h; simp
  · rw [decide_eq_false h, decide_eq_false]; intro q; cases q; exact h rfl
theorem vb_eq {i j : Bool} : decide (V.bl i = V.bl j) = decide (i = j) := by
  by_cases h : i = j
  · subst h; simp
  · rw [decide_eq_false h, decide_eq_false]; intro q; cases q; exact h rfl
theorem vs_eq {i j : Str} : decide (V.str i = V.str j) = decide (i = j) := by
  by_cases h : i = j
  · subst h; simp
  · rw [decide_eq_false h, decide_eq_false]; intro q; cases q; exact h rfl
theorem pd_eqI (ha : PD X T ρ M a (.int i) M1) (hb : PD X T ρ M1 b (.int j) M2) : PD X T ρ M (.Compare a [.Eq] [b] pos) (.bl (decide (i = j))) M2 := pd_cmp op_eq (ok_eq rfl rfl rfl vi_eq) ha hb
theorem pd_neI (ha : PD X T ρ M a (.int i) M1) (hb : PD X T ρ M1 b (.int j) M2) : PD X T ρ M (.Compare a [.NotEq] [b] pos) (.bl (!decide (i = j))) M2 := pd_cmp op_ne (ok_ne rfl rfl rfl (by rw [vi_eq])) ha hb
theorem pdt_eqI (ha : PD X T ρ M a (.int i) M1) (hb : PD X T ρ M1 b (.int j) M2) : PDT X T ρ M (.Compare a [.Eq] [b] pos) (decide (i = j)) M2 := pdt_cmp op_eq (ok_eq rfl rfl rfl vi_eq) ha hb
theorem pdt_neI (ha : PD X T ρ M a (.int i) M1) (hb : PD X T ρ M1 b (.int j) M2) : PDT X T ρ M (.Compare a [.NotEq] [b] pos) (!decide (i = j)) M2 := pdt_cmp op_ne (ok_ne rfl rfl rfl (by rw [vi_eq])) ha hb
variable {p q : Bool}
theorem pd_eqB (ha : PD X T ρ M a (.bl p) M1) (hb : PD X T ρ M1 b (.bl q) M2) : PD X T ρ M (.Compare a [.Eq] [b] pos) (.bl (decide (p = q))) M2 := pd_cmp op_eq (ok_eq rfl rfl rfl vb_eq) ha hb
theorem pd_neB (ha : PD X T ρ M a (.bl p) M1) (hb : PD X T ρ M1 b (.bl q) M2) : PD X T ρ M (.Compare a [.NotEq] [b] pos) (.bl (!decide (p = q))) M2 := pd_cmp op_ne (ok_ne rfl rfl rfl (by rw [vb_eq])) ha hb
theorem pdt_eqB (ha : PD X T ρ M a (.bl p) M1) (hb : PD X T ρ M1 b (.bl q) M2) : PDT X T ρ M (.Compare a [.Eq] [b] pos) (decide (p = q)) M2 := pdt_cmp op_eq (ok_eq rfl rfl rfl vb_eq) ha hb
theorem pdt_neB (ha : PD X T ρ M a (.bl p) M1) (hb : PD X T ρ M1 b (.bl q) M2) : PDT X T ρ M (.Compare a [.NotEq] [b] pos) (!decide (p = q)) M2 := pdt_cmp op_ne (ok_ne rfl rfl rfl (by rw [vb_eq])) ha hb
variable {x y : Str}
theorem pd_eqS (ha : PD X T ρ M a (.str x) M1) (hb : PD X T ρ M1 b (.str y) M2) : PD X T ρ M (.Compare a [.Eq] [b] pos) (.bl (decide (x = y))) M2 := pd_cmp op_eq (ok_eq rfl rfl rfl vs_eq) ha hb
theorem pd_neS (ha : PD X T ρ M a (.str x) M1) (hb : PD X T ρ M1 b (.str y) M2) : PD X T ρ M (.Compare a [.NotEq] [b] pos) (.bl (!decide (x = y))) M2 := pd_cmp op_ne (ok_ne rfl rfl rfl (by rw [vs_eq])) ha hb
theorem pdt_eqS (ha : PD X T ρ M a (.str x) M1) (hb : PD X T ρ M1 b (.str y) M2) : PDT X T ρ M (.Compare a [.Eq] [b] pos) (decide (x = y)) M2 := pdt_cmp op_eq (ok_eq rfl rfl rfl vs_eq) ha hb
theorem pdt_neS (ha : PD X T ρ M a (.str x) M1) (hb : PD X T ρ M1 b (.str y) M2) : PDT X T ρ M (.Compare a [.NotEq] [b] pos) (!decide (x = y)) M2 := pdt_cmp op_ne (ok_ne rfl rfl rfl (by rw [vs_eq])) ha hb
/-! is None -/
def D.isN : D → Bool
  | .non => true
  | _ => false
theorem Dt.isN {w : World} {G : Hp} {v : V} {d : D} (h : Dt w G v d) : decide (v = .non) = d.isN := by
  cases h <;> rfl
theorem pd_isN {k : Nat} {pos' : Pos} (ha : PD X T ρ M a d M1) : PD X T ρ M (.Compare a [.Is] [.Constant .none k pos'] pos) (.bl d.isN) M1 :=
  pd_cmp op_isN (fun G H v u Q hs r1 r2 q => by cases r2; exact ⟨rfl, by rw [r1.isN]; exact q _ G H (Step.refl _ _ _) hs (.bl _)⟩) ha pd_non
theorem pd_notN {k : Nat} {pos' : Pos} (ha : PD X T ρ M a d M1) : PD X T ρ M (.Compare a [.IsNot] [.Constant .none k pos'] pos) (.bl (!d.isN)) M1 :=
  pd_cmp op_notN (fun G H v u Q hs r1 r2 q => by cases r2; exact ⟨rfl, by rw [r1.isN]; exact q _ G H (Step.refl _ _ _) hs (.bl _)⟩) ha pd_non
theorem pdt_isN {k : Nat} {pos' : Pos} (ha : PD X T ρ M a d M1) : PDT X T ρ M (.Compare a [.Is] [.Constant .none k pos'] pos) d.isN M1 :=
  pdt_cmp op_isN (fun G H v u Q hs r1 r2 q => by cases r2; exact ⟨rfl, by rw [r1.isN]; exact q _ G H (Step.refl _ _ _) hs (.bl _)⟩) ha pd_non
theorem pdt_notN {k : Nat} {pos' : Pos} (ha : PD X T ρ M a d M1) : PDT X T ρ M (.Compare a [.IsNot] [.Constant .none k pos'] pos) (!d.isN) M1 :=
  pdt_cmp op_notN (fun G H v u Q hs r1 r2 q => by cases r2; exact ⟨rfl, by rw [r1.isN]; exact q _ G H (Step.refl _ _ _) hs (.bl _)⟩) ha pd_non
/-! argument lists, displays -/
theorem pdl_nil : PDL X T ρ M [] [] M := pa_nil.imp fun σ H Q ⟨G, hs, sl, k⟩ => k [] G H (Step.refl _ _ _) hs .nil
theorem pdl_cons {ds : List D} (h : PD X T ρ M e d M1) (r : PDL X T ρ M1 es ds M2) (hs : starEach (e :: es) X.env = (false, eval e X.env) :: starEach es X.env := by rfl) : PDL X T ρ M (e :: es) (d :: ds) M2 :=
  (pa_cons h r hs).imp fun σ H Q ⟨G, hs, sl, k⟩ => ⟨G, hs, sl, fun v G1 H1 st1 hs1 r1 => ⟨G1, hs1, sl.up st1.up, fun vs G2 H2 st2 hs2 r2 => k (v :: vs) G2 H2 (st1.trans st2) hs2 (.cons (r1.up st2.up) r2)⟩⟩
theorem pdl_1 (h : PD X T ρ M e d M1) (hs : starEach [e] X.env = (false, eval e X.env) :: starEach [] X.env := by rfl) : PDL X T ρ M [e] [d] M1 := pdl_cons h pdl_nil hs
theorem pd_tup {ds : List D} {x1} (h : PDL X T ρ M es ds M1) (hl : ds.length ≤ sizeLine := by exact Nat.le_of_ble_eq_true rfl) : PD X T ρ M (.Tuple es x1 pos) (.tup ds) M1 :=
  (pe_tup h).imp fun σ H Q ⟨G, hs, sl, k⟩ => ⟨G, hs, sl, fun vs G1 H1 st1 hs1 r1 => ⟨by rw [r1.length]; exact hl, fun p hp =>
    k _ _ _ (st1.trans (Step.newI hs1 hp)) (hs1.new hp fun _ q => by cases q) (.tup upd_same (r1.up (up_upd (hs1.freshG hp))))⟩⟩
theorem pd_lst {ds : List D} (h : PDL X T ρ M es ds M1) (hl : ds.length ≤ sizeLine := by exact Nat.le_of_ble_eq_true rfl) : PD X T ρ M (.List es pos) (.lst ds) M1 :=
  (pe_lst h).imp fun σ H Q ⟨G, hs, sl, k⟩ => ⟨G, hs, sl, fun vs G1 H1 st1 hs1 r1 => ⟨by rw [r1.length]; exact hl, fun p hp =>
    k _ _ _ (st1.trans (Step.newI hs1 hp)) (hs1.new hp fun _ q => by cases q) (.lst upd_same (r1.up (up_upd (hs1.freshG hp))))⟩⟩
end
end LW

set_option Elab.async false
set_option linter.all false
set_option maxRecDepth 100000
set_option maxHeartbeats 2000000
/-! LC: lists and tuples, builtins by values, attributes. -/
namespace LW
open PySem PySem.Spec PyProof.Rows L2
/-- d is a list of ds: a datum, or one of ours -/
inductive LV (M : Mem) : D → List D → Prop
  | dat {ds : List D} : LV M (.lst ds) ds
  | own {p : Addr} {ds : List D} (j : Nat) (h : M[j]? = some (some (p, .lst ds)) := by rfl) : LV M (.ref p) ds
/-- d is an instance with the fields fs -/
inductive OV (M : Mem) : D → Addr → List (Str × D) → Prop
  | dat {C : Addr} {fs : List (Str × D)} : OV M (.obj C fs) C fs
  | own {p C : Addr} {fs : List (Str × D)} (j : Nat) (h : M[j]? = some (some (p, .obj C fs)) := by rfl) : OV M (.ref p) C fs
section
variable {w : World} {T : List Addr} {G H : Hp} {M : Mem} {v : V} {d : D}
theorem mem_of {j : Nat} {x : Option (Addr × Ob)} (h : M[j]? = some x) : x ∈ M := List.mem_of_getElem? h
theorem LV.get {ds : List D} (l : LV M d ds) (hs : HS w T G H M) (r : Dt w G v d) : ∃ a xs, v = .ref a ∧ H a = some (.lst xs) ∧ DtL w G xs ds := by
  cases l with
  | dat =>
    cases r with
    | lst e r => exact ⟨_, _, rfl, hs.sub _ _ e, r⟩
  | own j h =>
    cases r
    obtain ⟨_, xs, e, r⟩ := hs.mem _ _ (mem_of h)
    exact ⟨_, xs, rfl, e, r⟩
theorem Dt.tupH {ds : List D} (r : Dt w G v (.tup ds)) (hs : HS w T G H M) : ∃ a xs, v = .ref a ∧ H a = some (.tup xs) ∧ DtL w G xs ds := by
  cases r with
  | tup e r => exact ⟨_, _, rfl, hs.sub _ _ e, r⟩
theorem OV.get {C : Addr} {fs : List (Str × D)} (l : OV M d C fs) (hs : HS w T G H M) (r : Dt w G v d) : ∃ a dx ws, v = .ref a ∧ H a = some (.ins C dx ws) ∧ DtF w G ws fs := by
  cases l with
  | dat =>
    cases r with
    | obj e r => exact ⟨_, _, _, rfl, hs.sub _ _ e, r⟩
  | own j h =>
    cases r
    obtain ⟨_, dx, xs, e, r⟩ := hs.mem _ _ (mem_of h)
    exact ⟨_, dx, xs, rfl, e, r⟩
theorem DtL.atI {vs : List V} {ds : List D} (r : DtL w G vs ds) {i : Int} (h : L2.atI ds i = some d) : ∃ v, L2.atI vs i = some v ∧ Dt w G v d := by
  unfold L2.atI at h ⊢
  rw [r.length]
  cases e : ixN ds.length i with
  | none =>
    rw [e] at h
    cases h
  | some j =>
    rw [e] at h
    exact r.get h
end
theorem atI_of {α : Type} {xs : List α} {i : Int} {v : α} (h0 : 0 ≤ i) (h : xs[i.toNat]? = some v) : L2.atI xs i = some v := by
  have e : i = ((i.toNat : Nat) : Int) := by omega
  rw [e]
  exact atI_nat h
section
variable {X : Cx} {T : List Addr} {ρ : List (Option D)} {M M1 M2 M3 : Mem} {d da db dc : D} {a b c e : Expr} {es : List Expr} {pos : Pos} {ds : List D}
/-! subscripts -/
theorem pd_ix {r : R2} (ho : IxR X r) (hr : OkR2 X.w T M2 r da db d) (ha : PD X T ρ M a da M1) (hb : PD X T ρ M1 b db M2) (hs : PlainIx b := by exact fun _ _ => rfl) : PD X T ρ M (.Subscript a b pos) d M2 :=
  (pe_ix ho ha hb hs).imp fun σ H Q h => two_in (ta := tE X.w T ρ M da M1) (tb := tE X.w T ρ M1 db M2) hr σ H Q h
theorem pd_ixL {i : Int} (l : LV M2 da ds) (h : L2.atI ds i = some d) (ha : PD X T ρ M a da M1) (hb : PD X T ρ M1 b (.int i) M2) (hs : PlainIx b := by exact fun _ _ => rfl) : PD X T ρ M (.Subscript a b pos) d M2 :=
  pd_ix ix_list (fun G H v u Q hs r1 r2 k => by
    obtain ⟨p, xs, rfl, e, r⟩ := l.get hs r1
    obtain ⟨z, h1, h2⟩ := r.atI h
    cases r2
    exact ⟨p, xs, i, z, rfl, rfl, SqL.of e, h1, k _ G H (Step.refl _ _ _) hs h2⟩) ha hb hs
theorem pd_ixT {i : Int} (h : L2.atI ds i = some d) (ha : PD X T ρ M a (.tup ds) M1) (hb : PD X T ρ M1 b (.int i) M2) (hs : PlainIx b := by exact fun _ _ => rfl) : PD X T ρ M (.Subscript a b pos) d M2 :=
  pd_ix ix_tup (fun G H v u Q hs r1 r2 k => by
    obtain ⟨p, xs, rfl, e, r⟩ := r1.tupH hs
    obtain ⟨z, h1, h2⟩ := r.atI h
    cases r2
    exact ⟨p, xs, i, z, rfl, rfl, SqT.of e, h1, k _ G H (Step.refl _ _ _) hs h2⟩) ha hb hs
theorem pd_ixS {i : Int} {z : Str} {c : Nat} (hz : z.length ≤ sizeLine) (h : L2.atI z.cps.toList i = some c) (ha : PD X T ρ M a (.str z) M1) (hb : PD X T ρ M1 b (.int i) M2) (hs : PlainIx b := by exact fun _ _ => rfl) : PD X T ρ M (.Subscript a b pos) (.str ⟨#[c]⟩) M2 :=
  pd_ix ix_str (fun G H v u Q hs r1 r2 k => by
    cases r1
    cases r2
    exact ⟨z, i, c, rfl, rfl, hz, h, k _ G H (Step.refl _ _ _) hs (.str _)⟩) ha hb hs
/-! slices -/
def tEO (w : World) (T : List Addr) (ρ : List (Option D)) (M : Mem) (o : Option Int) : TO := fun σ H Q => ∃ G, HS w T G H M ∧ SL w G σ ρ ∧ ∀ G' H', Step G H M G' H' M → HS w T G' H' M → Q o H'
abbrev PDO (X : Cx) (T : List Addr) (ρ : List (Option D)) (M : Mem) (e : Option Expr) (o : Option Int) : Prop := PO X e (tEO X.w T ρ M o)
theorem _root_.L2.PO.imp {eo : Option Expr} {t t' : TO} (h : PO X eo t) (k : ∀ σ H Q, t' σ H Q → t σ H Q) : PO X eo t' :=
  ⟨fun pins s σ H Q I q => h.run pins s σ H Q I (k _ _ _ q)⟩
theorem pdo_none : PDO X T ρ M none none := po_none.imp fun σ H Q ⟨G, hs, sl, k⟩ => k G H (Step.refl _ _ _) hs
theorem pdo_some {i : Int} (h : PD X T ρ M e (.int i) M) : PDO X T ρ M (some e) (some i) := (po_some h).imp fun σ H Q ⟨G, hs, sl, k⟩ => ⟨G, hs, sl, fun v G' H' st hs' r => by cases r; exact ⟨i, rfl, k G' H' st hs'⟩⟩
theorem sl_in {r : V → Option Int → Option Int → Hp → VK → Prop} {lo hi : Option Int} (hr : ∀ (G H : Hp) (v : V) (Q : VK), HS X.w T G H M → Dt X.w G v da →
    (∀ z G' H', Step G H M G' H' M → HS X.w T G' H' M → Dt X.w G' z d → Q z H') → r v lo hi H Q) (σ : L2.St) (H : Hp) (Q : VK) (h : tE X.w T ρ M d M σ H Q) :
    tSl r (tE X.w T ρ M da M) (tEO X.w T ρ M lo) (tEO X.w T ρ M hi) σ H Q := by
  obtain ⟨G, hs, sl, k⟩ := h
  refine ⟨G, hs, sl, fun v G1 H1 st1 hs1 r1 => ⟨G1, hs1, sl.up st1.up, fun G2 H2 st2 hs2 => ⟨G2, hs2, (sl.up st1.up).up st2.up, fun G3 H3 st3 hs3 => ?_⟩⟩⟩
  exact hr G3 H3 v Q hs3 ((r1.up st2.up).up st3.up) fun z G' H' st hs' rz => k z G' H' (((st1.trans st2).trans st3).trans st) hs' rz
def cutD {α : Type} (xs : List α) (lo hi : Option Int) : List α := (xs.drop (HT.sIx xs.length 0 lo)).take (HT.sIx xs.length xs.length hi - HT.sIx xs.length 0 lo)
theorem DtL.cut {w : World} {G : Hp} {vs : List V} {ds : List D} (r : DtL w G vs ds) (lo hi : Option Int) : DtL w G (cutV vs lo hi) (cutD ds lo hi) := by
  unfold cutV cutD
  rw [r.length]
  exact (r.drop _).take _
variable {lo hi : Option Expr} {p2 : Pos} {i j : Option Int}
theorem pd_slL (l : LV M da ds) (ha : PD X T ρ M a da M) (h1 : PDO X T ρ M lo i) (h2 : PDO X T ρ M hi j) : PD X T ρ M (.Subscript a (.Slice lo hi none p2) pos) (.lst (cutD ds i j)) M :=
  (pe_slice sl_list ha h1 h2).imp fun σ H Q h => sl_in (fun G H v Q hs r k => by
    obtain ⟨p, xs, rfl, e, r⟩ := l.get hs r
    refine ⟨p, xs, rfl, SqL.of e, fun q hq => ?_⟩
    exact k _ _ _ (Step.newI hs hq) (hs.new hq fun _ z => by cases z) (.lst upd_same ((r.cut i j).up (up_upd (hs.freshG hq))))) σ H Q h
theorem cut_whole {w : World} {G : Hp} {xs : List V} {ds : List D} (r : DtL w G xs ds) (h : HT.sIx xs.length 0 i = 0 ∧ HT.sIx xs.length xs.length j = xs.length) : cutD ds i j = ds := by
  unfold cutD
  rw [← r.length, h.1, h.2, List.drop_zero, List.take_of_length_le (by rw [r.length]; omega)]
theorem pd_slT (ha : PD X T ρ M a (.tup ds) M) (h1 : PDO X T ρ M lo i) (h2 : PDO X T ρ M hi j) : PD X T ρ M (.Subscript a (.Slice lo hi none p2) pos) (.tup (cutD ds i j)) M :=
  (pe_slice sl_tupA ha h1 h2).imp fun σ H Q h => sl_in (fun G H v Q hs r0 k => by
    obtain ⟨p, xs, rfl, e, r⟩ := r0.tupH hs
    refine ⟨p, xs, rfl, SqT.of e, fun q => ?_, fun _ q hq => ?_⟩
    · rw [cut_whole r q] at k
      exact k _ G H (Step.refl _ _ _) hs r0
    · exact k _ _ _ (Step.newI hs hq) (hs.new hq fun _ z => by cases z) (.tup upd_same ((r.cut i j).up (up_upd (hs.freshG hq))))) σ H Q h
/-! a builtin called by its name -/
theorem pd_callB {id : String} {x : Str} {r : List V → Hp → VK → Prop} {p : Pos} (hc : CallR X (.builtin id) r) (hr : OkC X.w T M2 r ds d) (hm : X.mg x = none) (hv : bootBuiltins x = some (.builtin id)) (ha : PDL X T ρ M (e :: es) ds M2)
    (hg : Gl X x := by rfl) (hn : x ≠ "__name__" := by decide) (hdb : (x == ("__debug__" : Str)) = false := by decide)
    (he : starEach (e :: es) X.env = (false, eval e X.env) :: starEach es X.env := by rfl) (hpl : (backTo pos (starEach es X.env)).any (·.1) = false := by rfl) : PD X T ρ M (.Call (.Name x p) (e :: es) [] pos) d M2 :=
  (pe_callB hc hg hm hv ha hn hdb he hpl).imp fun σ H Q ⟨G, hs, sl, k⟩ => ⟨G, hs, sl, fun vs G1 H1 st1 hs1 r1 => hr G1 H1 vs Q hs1 r1 fun z G' H' st hs' rz => k z G' H' (st1.trans st) hs' rz⟩
theorem pd_callT {id : String} {x : Str} {r : List V → Hp → VK → Prop} {p : Pos} (hc : CallR X (.type id) r) (hr : OkC X.w T M2 r ds d) (hm : X.mg x = none) (hv : bootBuiltins x = some (.type id)) (ha : PDL X T ρ M (e :: es) ds M2)
    (hg : Gl X x := by rfl) (hn : x ≠ "__name__" := by decide) (hdb : (x == ("__debug__" : Str)) = false := by decide)
    (he : starEach (e :: es) X.env = (false, eval e X.env) :: starEach es X.env := by rfl) (hpl : (backTo pos (starEach es X.env)).any (·.1) = false := by rfl) : PD X T ρ M (.Call (.Name x p) (e :: es) [] pos) d M2 :=
  (pe_callTy hc hg hm hv ha hn hdb he hpl).imp fun σ H Q ⟨G, hs, sl, k⟩ => ⟨G, hs, sl, fun vs G1 H1 st1 hs1 r1 => hr G1 H1 vs Q hs1 r1 fun z G' H' st hs' rz => k z G' H' (st1.trans st) hs' rz⟩
theorem DtL.one {w : World} {G : Hp} {vs : List V} {d : D} (r : DtL w G vs [d]) : ∃ v, vs = [v] ∧ Dt w G v d := by
  cases r with
  | cons h t =>
    cases t
    exact ⟨_, rfl, h⟩
theorem DtL.two {w : World} {G : Hp} {vs : List V} {d d' : D} (r : DtL w G vs [d, d']) : ∃ v u, vs = [v, u] ∧ Dt w G v d ∧ Dt w G u d' := by
  cases r with
  | cons h t =>
    obtain ⟨u, rfl, h2⟩ := t.one
    exact ⟨_, u, rfl, h, h2⟩
variable {p : Pos}
theorem pd_lenL (l : LV M1 da ds) (hm : X.mg "len" = none) (ha : PD X T ρ M a da M1) (hg : Gl X "len" := by rfl) (he : starEach [a] X.env = (false, eval a X.env) :: starEach [] X.env := by rfl) :
    PD X T ρ M (.Call (.Name "len" p) [a] [] pos) (.int (ds.length : Int)) M1 :=
  pd_callB call_len_seq (fun G H vs Q hs r k => by
    obtain ⟨v, rfl, rr⟩ := r.one
    obtain ⟨p, xs, rfl, e, r⟩ := l.get hs rr
    exact ⟨p, xs, rfl, .inl (SqL.of e), by rw [r.length]; exact k _ G H (Step.refl _ _ _) hs (.int _)⟩) hm PySem.boot_len (pdl_1 ha he) hg (by decide) (by decide) he
theorem pd_lenT (hm : X.mg "len" = none) (ha : PD X T ρ M a (.tup ds) M1) (hg : Gl X "len" := by rfl) (he : starEach [a] X.env = (false, eval a X.env) :: starEach [] X.env := by rfl) :
    PD X T ρ M (.Call (.Name "len" p) [a] [] pos) (.int (ds.length : Int)) M1 :=
  pd_callB call_len_seq (fun G H vs Q hs r k => by
    obtain ⟨v, rfl, rr⟩ := r.one
    obtain ⟨p, xs, rfl, e, r⟩ := rr.tupH hs
    exact ⟨p, xs, rfl, .inr (SqT.of e), by rw [r.length]; exact k _ G H (Step.refl _ _ _) hs (.int _)⟩) hm PySem.boot_len (pdl_1 ha he) hg (by decide) (by decide) he
theorem pd_lenS {z : Str} (hz : z.length ≤ sizeLine) (hm : X.mg "len" = none) (ha : PD X T ρ M a (.str z) M1) (hg : Gl X "len" := by rfl) (he : starEach [a] X.env = (false, eval a X.env) :: starEach [] X.env := by rfl) :
    PD X T ρ M (.Call (.Name "len" p) [a] [] pos) (.int (z.length : Int)) M1 :=
  pd_callB call_len_str (fun G H vs Q hs r k => by
    obtain ⟨v, rfl, rr⟩ := r.one
    cases rr
    exact ⟨z, rfl, hz, k _ G H (Step.refl _ _ _) hs (.int _)⟩) hm PySem.boot_len (pdl_1 ha he) hg (by decide) (by decide) he
theorem pd_abs {i : Int} (hm : X.mg "abs" = none) (ha : PD X T ρ M a (.int i) M1) (hg : Gl X "abs" := by rfl) (he : starEach [a] X.env = (false, eval a X.env) :: starEach [] X.env := by rfl) :
    PD X T ρ M (.Call (.Name "abs" p) [a] [] pos) (.int (if i < 0 then -i else i)) M1 :=
  pd_callB call_abs (fun G H vs Q hs r k => by
    obtain ⟨v, rfl, rr⟩ := r.one
    cases rr
    exact ⟨i, rfl, k _ G H (Step.refl _ _ _) hs (.int _)⟩) hm (by decide +kernel) (pdl_1 ha he) hg (by decide) (by decide) he
theorem pd_intI {i : Int} (hm : X.mg "int" = none) (ha : PD X T ρ M a (.int i) M1) (hg : Gl X "int" := by rfl) (he : starEach [a] X.env = (false, eval a X.env) :: starEach [] X.env := by rfl) :
    PD X T ρ M (.Call (.Name "int" p) [a] [] pos) (.int i) M1 :=
  pd_callT call_int1 (fun G H vs Q hs r k => by
    obtain ⟨v, rfl, rr⟩ := r.one
    cases rr
    exact .inl ⟨i, rfl, k _ G H (Step.refl _ _ _) hs (.int _)⟩) hm (by decide +kernel) (pdl_1 ha he) hg (by decide) (by decide) he
theorem pd_intB {i : Bool} (hm : X.mg "int" = none) (ha : PD X T ρ M a (.bl i) M1) (hg : Gl X "int" := by rfl) (he : starEach [a] X.env = (false, eval a X.env) :: starEach [] X.env := by rfl) :
    PD X T ρ M (.Call (.Name "int" p) [a] [] pos) (.int (if i then 1 else 0)) M1 :=
  pd_callT call_int1 (fun G H vs Q hs r k => by
    obtain ⟨v, rfl, rr⟩ := r.one
    cases rr
    exact .inr ⟨i, rfl, k _ G H (Step.refl _ _ _) hs (.int _)⟩) hm (by decide +kernel) (pdl_1 ha he) hg (by decide) (by decide) he
theorem pd_strI {i : Int} (hz : i.natAbs.log2 < 1920) (hm : X.mg "str" = none) (ha : PD X T ρ M a (.int i) M1) (hg : Gl X "str" := by rfl) (he : starEach [a] X.env = (false, eval a X.env) :: starEach [] X.env := by rfl) :
    PD X T ρ M (.Call (.Name "str" p) [a] [] pos) (.str (toString i)) M1 :=
  pd_callT call_str_int (fun G H vs Q hs r k => by
    obtain ⟨v, rfl, rr⟩ := r.one
    cases rr
    exact ⟨i, rfl, hz, k _ G H (Step.refl _ _ _) hs (.str _)⟩) hm (by decide +kernel) (pdl_1 ha he) hg (by decide) (by decide) he
/-- tuple(list), tuple(tuple), list(..) -/
theorem pd_tupL (l : LV M1 da ds) (hm : X.mg "tuple" = none) (ha : PD X T ρ M a da M1) (hg : Gl X "tuple" := by rfl) (he : starEach [a] X.env = (false, eval a X.env) :: starEach [] X.env := by rfl) :
    PD X T ρ M (.Call (.Name "tuple" p) [a] [] pos) (.tup ds) M1 :=
  pd_callT call_tuple_of (fun G H vs Q hs r k => by
    obtain ⟨v, rfl, rr⟩ := r.one
    obtain ⟨p, xs, rfl, e, r⟩ := l.get hs rr
    exact ⟨p, xs, rfl, .inl ⟨SqL.of e, fun q hq => k _ _ _ (Step.newI hs hq) (hs.new hq fun _ z => by cases z) (.tup upd_same (r.up (up_upd (hs.freshG hq))))⟩⟩) hm (by decide +kernel) (pdl_1 ha he) hg (by decide) (by decide) he
theorem pd_tupT (hm : X.mg "tuple" = none) (ha : PD X T ρ M a (.tup ds) M1) (hg : Gl X "tuple" := by rfl) (he : starEach [a] X.env = (false, eval a X.env) :: starEach [] X.env := by rfl) :
    PD X T ρ M (.Call (.Name "tuple" p) [a] [] pos) (.tup ds) M1 :=
  pd_callT call_tuple_of (fun G H vs Q hs r k => by
    obtain ⟨v, rfl, r0⟩ := r.one
    obtain ⟨p, xs, rfl, e, r⟩ := r0.tupH hs
    exact ⟨p, xs, rfl, .inr ⟨SqT.of e, k _ G H (Step.refl _ _ _) hs r0⟩⟩) hm (by decide +kernel) (pdl_1 ha he) hg (by decide) (by decide) he
theorem pd_lstL (l : LV M1 da ds) (hm : X.mg "list" = none) (ha : PD X T ρ M a da M1) (hg : Gl X "list" := by rfl) (he : starEach [a] X.env = (false, eval a X.env) :: starEach [] X.env := by rfl) :
    PD X T ρ M (.Call (.Name "list" p) [a] [] pos) (.lst ds) M1 :=
  pd_callT call_list_of (fun G H vs Q hs r k => by
    obtain ⟨v, rfl, rr⟩ := r.one
    obtain ⟨p, xs, rfl, e, r⟩ := l.get hs rr
    exact ⟨p, xs, rfl, .inl (SqL.of e), fun q hq => k _ _ _ (Step.newI hs hq) (hs.new hq fun _ z => by cases z) (.lst upd_same (r.up (up_upd (hs.freshG hq))))⟩) hm (by decide +kernel) (pdl_1 ha he) hg (by decide) (by decide) he
theorem pd_lstT (hm : X.mg "list" = none) (ha : PD X T ρ M a (.tup ds) M1) (hg : Gl X "list" := by rfl) (he : starEach [a] X.env = (false, eval a X.env) :: starEach [] X.env := by rfl) :
    PD X T ρ M (.Call (.Name "list" p) [a] [] pos) (.lst ds) M1 :=
  pd_callT call_list_of (fun G H vs Q hs r k => by
    obtain ⟨v, rfl, rr⟩ := r.one
    obtain ⟨p, xs, rfl, e, r⟩ := rr.tupH hs
    exact ⟨p, xs, rfl, .inr (SqT.of e), fun q hq => k _ _ _ (Step.newI hs hq) (hs.new hq fun _ z => by cases z) (.lst upd_same (r.up (up_upd (hs.freshG hq))))⟩) hm (by decide +kernel) (pdl_1 ha he) hg (by decide) (by decide) he
/-- sum, max, min of a list of ints -/
theorem pd_sumL {ns : List Int} (l : LV M1 da (ns.map D.int)) (hm : X.mg "sum" = none) (ha : PD X T ρ M a da M1) (hc : X.calm = true := by rfl) (hg : Gl X "sum" := by rfl) (he : starEach [a] X.env = (false, eval a X.env) :: starEach [] X.env := by rfl) :
    PD X T ρ M (.Call (.Name "sum" p) [a] [] pos) (.int ns.sum) M1 :=
  pd_callB (cr_sum hc) (fun G H vs Q hs r k => by
    obtain ⟨v, rfl, rr⟩ := r.one
    obtain ⟨p, xs, rfl, e, r⟩ := l.get hs rr
    exact ⟨p, ns, rfl, SqL.of (r.ints ▸ e), k _ G H (Step.refl _ _ _) hs (.int _)⟩) hm (by decide +kernel) (pdl_1 ha he) hg (by decide) (by decide) he
/-- the greatest, the least of a list of ints -/
def lmax : List Int → Int
  | [] => 0
  | [x] => x
  | x :: y :: r => max x (lmax (y :: r))
def lmin : List Int → Int
  | [] => 0
  | [x] => x
  | x :: y :: r => min x (lmin (y :: r))
theorem lmax_spec : ∀ {ns : List Int}, 0 < ns.length → lmax ns ∈ ns ∧ ∀ y ∈ ns, y ≤ lmax ns
  | [], h => absurd h (by decide)
  | [x], _ => ⟨List.mem_cons_self, fun y hy => by rw [List.mem_singleton.mp hy]; exact Int.le_refl _⟩
  | x :: y :: r, _ => by
    obtain ⟨h1, h2⟩ := lmax_spec (ns := y :: r) (Nat.succ_pos _)
    unfold lmax
    refine ⟨?_, fun z hz => ?_⟩
    · rcases Int.le_total x (lmax (y :: r)) with q | q
      · rw [Int.max_eq_right q]; exact List.mem_cons_of_mem _ h1
      · rw [Int.max_eq_left q]; exact List.mem_cons_self
    · rcases List.mem_cons.mp hz with e | e
      · rw [e]; exact Int.le_max_left _ _
      · exact Int.le_trans (h2 z e) (Int.le_max_right _ _)
theorem lmin_spec : ∀ {ns : List Int}, 0 < ns.length → lmin ns ∈ ns ∧ ∀ y ∈ ns, lmin ns ≤ y
  | [], h => absurd h (by decide)
  | [x], _ => ⟨List.mem_cons_self, fun y hy => by rw [List.mem_singleton.mp hy]; exact Int.le_refl _⟩
  | x :: y :: r, _ => by
    obtain ⟨h1, h2⟩ := lmin_spec (ns := y :: r) (Nat.succ_pos _)
    unfold lmin
    refine ⟨?_, fun z hz => ?_⟩
    · rcases Int.le_total x (lmin (y :: r)) with q | q
      · rw [Int.min_eq_left q]; exact List.mem_cons_self
      · rw [Int.min_eq_right q]; exact List.mem_cons_of_mem _ h1
    · rcases List.mem_cons.mp hz with e | e
      · rw [e]; exact Int.min_le_left _ _
      · exact Int.le_trans (Int.min_le_right _ _) (h2 z e)
theorem lmax_uniq {ns : List Int} {m : Int} (h : m ∈ ns) (h2 : ∀ y ∈ ns, y ≤ m) : m = lmax ns := by
  obtain ⟨h3, h4⟩ := lmax_spec (ns := ns) (List.length_pos_of_mem h)
  exact Int.le_antisymm (h4 m h) (h2 _ h3)
theorem lmin_uniq {ns : List Int} {m : Int} (h : m ∈ ns) (h2 : ∀ y ∈ ns, m ≤ y) : m = lmin ns := by
  obtain ⟨h3, h4⟩ := lmin_spec (ns := ns) (List.length_pos_of_mem h)
  exact Int.le_antisymm (h2 _ h3) (h4 m h)
theorem pd_maxL {ns : List Int} (l : LV M1 da (ns.map D.int)) (h0 : 0 < ns.length) (hm : X.mg "max" = none) (ha : PD X T ρ M a da M1) (hc : X.calm = true := by rfl) (hg : Gl X "max" := by rfl) (he : starEach [a] X.env = (false, eval a X.env) :: starEach [] X.env := by rfl) :
    PD X T ρ M (.Call (.Name "max" p) [a] [] pos) (.int (lmax ns)) M1 :=
  pd_callB (cr_max hc) (fun G H vs Q hs r k => by
    obtain ⟨v, rfl, rr⟩ := r.one
    obtain ⟨p, xs, rfl, e, r⟩ := l.get hs rr
    refine ⟨p, ns, rfl, SqL.of (r.ints ▸ e), h0, fun m h1 h2 => ?_⟩
    rw [lmax_uniq h1 h2]
    exact k _ G H (Step.refl _ _ _) hs (.int _)) hm (by decide +kernel) (pdl_1 ha he) hg (by decide) (by decide) he
theorem pd_minL {ns : List Int} (l : LV M1 da (ns.map D.int)) (h0 : 0 < ns.length) (hm : X.mg "min" = none) (ha : PD X T ρ M a da M1) (hc : X.calm = true := by rfl) (hg : Gl X "min" := by rfl) (he : starEach [a] X.env = (false, eval a X.env) :: starEach [] X.env := by rfl) :
    PD X T ρ M (.Call (.Name "min" p) [a] [] pos) (.int (lmin ns)) M1 :=
  pd_callB (cr_min hc) (fun G H vs Q hs r k => by
    obtain ⟨v, rfl, rr⟩ := r.one
    obtain ⟨p, xs, rfl, e, r⟩ := l.get hs rr
    refine ⟨p, ns, rfl, SqL.of (r.ints ▸ e), h0, fun m h1 h2 => ?_⟩
    rw [lmin_uniq h1 h2]
    exact k _ G H (Step.refl _ _ _) hs (.int _)) hm (by decide +kernel) (pdl_1 ha he) hg (by decide) (by decide) he
/-! list + list, list * int, tuple + tuple -/
theorem pd_catL {es' : List D} (l1 : LV M2 da ds) (l2 : LV M2 db es') (hz : ds.length + es'.length ≤ sizeLine) (ha : PD X T ρ M a da M1) (hb : PD X T ρ M1 b db M2) : PD X T ρ M (.BinOp a .Add b pos) (.lst (ds ++ es')) M2 :=
  pd_op op_cat (fun G H v u Q hs r1 r2 k => by
    obtain ⟨p, xs, rfl, e, r⟩ := l1.get hs r1
    obtain ⟨q, ys, rfl, e', r'⟩ := l2.get hs r2
    exact ⟨p, q, xs, ys, rfl, rfl, e, e', by rw [r.length, r'.length]; exact hz, fun t ht => k _ _ _ (Step.newI hs ht) (hs.new ht fun _ z => by cases z) (.lst upd_same ((r.app r').up (up_upd (hs.freshG ht))))⟩) ha hb
theorem DtL.rep {w : World} {G : Hp} {vs : List V} {ds : List D} (r : DtL w G vs ds) : ∀ n : Nat, DtL w G (List.replicate n vs).flatten (List.replicate n ds).flatten
  | 0 => .nil
  | n + 1 => by
    rw [List.replicate_succ, List.replicate_succ, List.flatten_cons, List.flatten_cons]
    exact r.app (DtL.rep r n)
theorem pd_repL {k : Int} (l : LV M2 da ds) (h1 : -(2 ^ 63) ≤ k) (h2 : k < 2 ^ 63) (hz : ds.length * k.toNat ≤ sizeLine) (ha : PD X T ρ M a da M1) (hb : PD X T ρ M1 b (.int k) M2) : PD X T ρ M (.BinOp a .Mult b pos) (.lst (List.replicate k.toNat ds).flatten) M2 :=
  pd_op op_rep (fun G H v u Q hs r1 r2 kk => by
    obtain ⟨p, xs, rfl, e, r⟩ := l.get hs r1
    cases r2
    exact ⟨p, k, xs, rfl, rfl, e, h1, h2, by rw [r.length]; exact hz, fun t ht => kk _ _ _ (Step.newI hs ht) (hs.new ht fun _ z => by cases z) (.lst upd_same ((r.rep _).up (up_upd (hs.freshG ht))))⟩) ha hb
theorem pd_repT {k : Int} (h0 : ds ≠ []) (h1 : 2 ≤ k) (h2 : k ≤ 1000) (hz : ds.length ≤ 1000) (ha : PD X T ρ M a (.tup ds) M1) (hb : PD X T ρ M1 b (.int k) M2) : PD X T ρ M (.BinOp a .Mult b pos) (.tup (List.replicate k.toNat ds).flatten) M2 :=
  pd_op op_repT (fun G H v u Q hs r1 r2 kk => by
    obtain ⟨p, xs, rfl, e, r⟩ := r1.tupH hs
    cases r2
    exact ⟨p, k, xs, rfl, rfl, SqT.of e, (fun q => h0 (List.eq_nil_of_length_eq_zero (by rw [← r.length, q]; rfl))), h1, h2, by rw [r.length]; exact hz, fun t ht => kk _ _ _ (Step.newI hs ht) (hs.new ht fun _ z => by cases z) (.tup upd_same ((r.rep _).up (up_upd (hs.freshG ht))))⟩) ha hb
theorem pd_catT {es' : List D} (hz : ds.length + es'.length ≤ sizeLine) (ha : PD X T ρ M a (.tup ds) M1) (hb : PD X T ρ M1 b (.tup es') M2) : PD X T ρ M (.BinOp a .Add b pos) (.tup (ds ++ es')) M2 :=
  pd_op op_catA (fun G H v u Q hs r1 r2 k => by
    obtain ⟨p, xs, rfl, e, r⟩ := r1.tupH hs
    obtain ⟨q, ys, rfl, e', r'⟩ := r2.tupH hs
    refine ⟨p, q, xs, ys, rfl, rfl, SqT.of e, SqT.of e', by rw [r.length, r'.length]; exact hz, fun z => ?_, fun _ z => ?_, fun _ _ t ht => k _ _ _ (Step.newI hs ht) (hs.new ht fun _ z => by cases z) (.tup upd_same ((r.app r').up (up_upd (hs.freshG ht))))⟩
    · subst z
      cases r
      exact k _ G H (Step.refl _ _ _) hs r2
    · subst z
      cases r'
      rw [List.append_nil] at k
      exact k _ G H (Step.refl _ _ _) hs r1) ha hb
/-! attributes -/
theorem pd_fld {C : Addr} {f : Str} {fs : List (Str × D)} (o : OV M1 da C fs) (hc : Cls X.K C) (hn : NoAttr X.K C f) (ha : PD X T ρ M a da M1) (hl : fs.lookup f = some d := by rfl)
    (hb : attributeBase a f X.env (eval a X.env) = eval a X.env := by rfl) : PD X T ρ M (.Attribute a f pos) d M1 :=
  (pe_fld ha hb).imp fun σ H Q ⟨G, hs, sl, k⟩ => ⟨G, hs, sl, fun v G1 H1 st1 hs1 r1 => by
    obtain ⟨p, dx, ws, rfl, e, r⟩ := o.get hs1 r1
    obtain ⟨u, hu, ru⟩ := r.get hl
    exact ⟨p, C, dx, ws, u, rfl, e, hc, hn, hu, k u G1 H1 st1 hs1 ru⟩⟩
end
end LW

set_option Elab.async false
set_option linter.all false
set_option maxRecDepth 100000
set_option maxHeartbeats 2000000
/-! LD: the frame, statements, defs and their calls. -/
namespace LW
open PySem PySem.Spec PyProof.Rows L2
section
variable {w : World} {T : List Addr} {G H G' H' : Hp} {M M' R m : Mem}
theorem adr_app : adr (M ++ R) = adr M ++ adr R := List.filterMap_append ..
theorem adr_perm (h : M.Perm M') : (adr M).Perm (adr M') := h.filterMap _
theorem HS.perm (s : HS w T G H M) (h : M.Perm M') : HS w T G H M' :=
  ⟨s.sub, s.pur, (adr_perm h).nodup_iff.mp s.nd, fun p ob q => s.mem p ob (h.mem_iff.mpr q), s.tab⟩
theorem Step.permL {N : Mem} (s : Step G H M G' H' N) (h : M.Perm M') : Step G H M' G' H' N := by
  have e : ∀ a, a ∈ adr M ↔ a ∈ adr M' := fun a => (adr_perm h).mem_iff
  exact ⟨s.up, fun a o q => by rcases s.new a o q with z | z | z; exact .inl z; exact .inr (.inl z); exact .inr (.inr ((e a).mp z)), fun a o q n => s.keep a o q fun z => n ((e a).mp z), fun a q => by rcases s.adr_ a q with z | z; exact .inl ((e a).mp z); exact .inr z⟩
theorem Step.permR {N : Mem} (s : Step G H N G' H' M) (h : M.Perm M') : Step G H N G' H' M' := by
  have e : ∀ a, a ∈ adr M ↔ a ∈ adr M' := fun a => (adr_perm h).mem_iff
  exact ⟨s.up, s.new, s.keep, fun a q => s.adr_ a ((e a).mpr q)⟩
/-- a part of what is owned -/
theorem HS.left (s : HS w T G H (M ++ R)) : HS w T G H M :=
  ⟨s.sub, s.pur, by have q := s.nd; rw [adr_app] at q; exact (List.nodup_append.mp q).1, fun p ob h => s.mem p ob (List.mem_append_left _ h), s.tab⟩
/-- THE FRAME -/
theorem frame_ok (s : HS w T G H (M ++ R)) (t : Step G H M G' H' m) (s' : HS w T G' H' m) : Step G H (M ++ R) G' H' (m ++ R) ∧ HS w T G' H' (m ++ R) := by
  have nd := s.nd
  rw [adr_app, List.nodup_append] at nd
  obtain ⟨n1, n2, n3⟩ := nd
  have notM : ∀ p, p ∈ adr R → p ∉ adr M := fun p h q => n3 p q p h rfl
  have hR : ∀ p ob, some (p, ob) ∈ R → G' p = none ∧ ObOk w G' H' p ob ∧ H' p = H p := fun p ob h => by
    obtain ⟨g0, ok⟩ := s.mem p ob (List.mem_append_right _ h)
    obtain ⟨o, e, _, nt, _⟩ := ok.there
    have np := notM p (adr_mem h)
    have e' : H' p = some o := by
      rcases t.keep p o e np with q | ⟨ps, more, q, _⟩
      · exact q
      · exact absurd q (nt ps)
    refine ⟨?_, ok.mono t.up (by rw [e', e]), by rw [e', e]⟩
    cases q : G' p with
    | none => rfl
    | some u =>
      rcases t.new p u q with z | z | z
      · rw [g0] at z; cases z
      · rw [e] at z; cases z
      · exact absurd z np
  refine ⟨⟨t.up, fun a o q => ?_, fun a o q n => t.keep a o q fun z => n (by rw [adr_app]; exact List.mem_append_left _ z), fun a q => ?_⟩, ⟨s'.sub, s'.pur, ?_, fun p ob h => ?_, s'.tab⟩⟩
  · rcases t.new a o q with z | z | z
    · exact .inl z
    · exact .inr (.inl z)
    · exact .inr (.inr (by rw [adr_app]; exact List.mem_append_left _ z))
  · rw [adr_app] at q ⊢
    rcases List.mem_append.mp q with z | z
    · rcases t.adr_ a z with z | z
      · exact .inl (List.mem_append_left _ z)
      · exact .inr z
    · exact .inl (List.mem_append_right _ z)
  · rw [adr_app, List.nodup_append]
    refine ⟨s'.nd, n2, fun a h b k e => ?_⟩
    subst e
    rcases t.adr_ a h with z | z
    · exact notM a k z
    · obtain ⟨ob, q⟩ := mem_adr k
      obtain ⟨o, e, _⟩ := (s.mem a ob (List.mem_append_right _ q)).2.there
      rw [z] at e
      cases e
  · rcases List.mem_append.mp h with z | z
    · exact s'.mem p ob z
    · exact ⟨(hR p ob z).1, (hR p ob z).2.1⟩
/-- one of ours, at place j -/
theorem erase_perm {α : Type} : ∀ {l : List α} {j : Nat} {c : α}, l[j]? = some c → (c :: l.eraseIdx j).Perm l
  | [], _, _, h => by simp at h
  | x :: l, 0, c, h => by simp at h; subst h; exact List.Perm.refl _
  | x :: l, j + 1, c, h => by
    have q := erase_perm (l := l) (j := j) (c := c) (by simpa using h)
    rw [List.eraseIdx_cons_succ]
    exact (List.Perm.swap x c _).trans (q.cons x)
theorem sett_perm {α : Type} : ∀ {l : List α} {j : Nat} {c : α} (c' : α), l[j]? = some c → (c' :: l.eraseIdx j).Perm (l.set j c')
  | [], _, _, _, h => by simp at h
  | x :: l, 0, c, c', h => List.Perm.refl _
  | x :: l, j + 1, c, c', h => by
    have q := sett_perm (l := l) (j := j) (c := c) c' (by simpa using h)
    rw [List.eraseIdx_cons_succ, List.set_cons_succ]
    exact (List.Perm.swap x c' _).trans (q.cons x)
theorem at_perm {j : Nat} {c : Option (Addr × Ob)} (h : M[j]? = some c) : M.Perm ([c] ++ M.eraseIdx j) := by
  exact (erase_perm h).symm
theorem set_perm {j : Nat} {c : Option (Addr × Ob)} (h : M[j]? = some c) (c' : Option (Addr × Ob)) : ([c'] ++ M.eraseIdx j).Perm (M.set j c') := by
  exact sett_perm c' h
/-- our object at place j is written -/
theorem HS.put {j : Nat} {p : Addr} {ob ob' : Ob} {o : HO} (s : HS w T G H M) (h : M[j]? = some (some (p, ob))) (ho : ∀ ps, o ≠ .tbl ps) (ok : ∀ H' : Hp, H' p = some o → ObOk w G H' p ob') :
    HS w T G (upd H p o) (M.set j (some (p, ob'))) ∧ Step G H M G (upd H p o) (M.set j (some (p, ob'))) := by
  have s1 := s.perm (at_perm h)
  have e0 := s1.mem p ob (List.mem_append_left _ List.mem_cons_self)
  obtain ⟨u, hu, _, nt, ntup⟩ := e0.2.there
  have a1 : HS w T G (upd H p o) [some (p, ob')] := by
    refine ⟨fun a x e => ?_, s.pur, (by simp [adr]), fun q ob2 hq => ?_, fun P hP => TabG.upd (s.tab P hP) fun ps q => nt ps (by rw [hu] at q; exact Option.some.inj q)⟩
    · rw [upd_ne fun z => by rw [z, e0.1] at e; cases e]
      exact s.sub a x e
    · cases List.mem_singleton.mp hq
      exact ⟨e0.1, ok _ upd_same⟩
  have t1 : Step G H [some (p, ob)] G (upd H p o) [some (p, ob')] := by
    refine ⟨fun _ _ e => e, fun _ _ e => .inl e, fun a x e n => ?_, fun a h => .inl h⟩
    rw [upd_ne fun z => n (by rw [z]; exact List.mem_singleton.mpr rfl)]
    exact .inl e
  obtain ⟨t2, a2⟩ := frame_ok s1 t1 a1
  exact ⟨a2.perm (set_perm h _), (t2.permL (at_perm h).symm).permR (set_perm h _)⟩
/-- a new object that is ours -/
theorem HS.own {p : Addr} {ob : Ob} {o : HO} (s : HS w T G H M) (hp : H p = none) (ho : ∀ ps, o ≠ .tbl ps) (ok : ∀ H' : Hp, H' p = some o → ObOk w G H' p ob) :
    HS w T G (upd H p o) (M ++ [some (p, ob)]) ∧ Step G H M G (upd H p o) (M ++ [some (p, ob)]) := by
  have gp := s.freshG hp
  have e : adr (M ++ [some (p, ob)]) = adr M ++ [p] := by rw [adr_app]; rfl
  refine ⟨⟨fun a x q => ?_, s.pur, ?_, fun q ob2 hq => ?_, fun P hP => TabG.upd (s.tab P hP) fun ps q => by rw [hp] at q; cases q⟩, ⟨fun _ _ q => q, fun _ _ q => .inl q, fun a x q n => ?_, fun a h => ?_⟩⟩
  · rw [upd_ne fun z => by rw [z, gp] at q; cases q]
    exact s.sub a x q
  · rw [e, List.nodup_append]
    refine ⟨s.nd, (by simp [adr]), fun a h b k z => ?_⟩
    rw [List.mem_singleton] at k
    subst k
    subst z
    exact s.fresh hp h
  · rcases List.mem_append.mp hq with z | z
    · obtain ⟨h1, h2⟩ := s.mem q ob2 z
      exact ⟨h1, h2.mono (fun _ _ e => e) (upd_ne fun y => s.fresh hp (y ▸ adr_mem z))⟩
    · cases List.mem_singleton.mp z
      exact ⟨gp, ok _ upd_same⟩
  · rw [upd_ne (ne_of_none q hp)]
    exact .inl q
  · rw [e] at h
    rcases List.mem_append.mp h with z | z
    · exact .inl z
    · rw [List.mem_singleton] at z
      subst z
      exact .inr hp
/-- ours no more: the object is a datum from now on -/
theorem HS.freeze {j : Nat} {p : Addr} {ob : Ob} {o : HO} (s : HS w T G H M) (h : M[j]? = some (some (p, ob))) (ho : H p = some o) (nt : ∀ ps, o ≠ .tbl ps) :
    HS w T (upd G p o) H (M.set j none) ∧ Step G H M (upd G p o) H (M.set j none) := by
  have s1 := s.perm (at_perm h)
  have g0 := (s1.mem p ob (List.mem_append_left _ List.mem_cons_self)).1
  have pm : ∀ x, x ∈ ([none] ++ M.eraseIdx j : Mem) → x = none ∨ x ∈ M.eraseIdx j := fun x h => by
    rcases List.mem_append.mp h with z | z
    · exact .inl (List.mem_singleton.mp z)
    · exact .inr z
  have nd := s1.nd
  have e1 : adr ([some (p, ob)] ++ M.eraseIdx j) = p :: adr (M.eraseIdx j) := rfl
  have e2 : adr ([none] ++ M.eraseIdx j) = adr (M.eraseIdx j) := rfl
  rw [e1, List.nodup_cons] at nd
  have a2 : HS w T (upd G p o) H ([none] ++ M.eraseIdx j) := by
    refine ⟨fun a x e => ?_, fun a ps e => ?_, by rw [e2]; exact nd.2, fun q ob2 hq => ?_, s.tab⟩
    · by_cases z : a = p
      · subst z
        rw [upd_same] at e
        rw [ho, e]
      · rw [upd_ne z] at e
        exact s.sub a x e
    · by_cases z : a = p
      · subst z
        rw [upd_same] at e
        exact nt ps (Option.some.inj e)
      · rw [upd_ne z] at e
        exact s.pur a ps e
    · rcases pm _ hq with z | z
      · cases z
      · obtain ⟨h1, h2⟩ := s1.mem q ob2 (List.mem_append_right _ z)
        have nq : q ≠ p := fun y => nd.1 (y ▸ adr_mem z)
        exact ⟨by rw [upd_ne nq]; exact h1, h2.mono (up_upd g0) rfl⟩
  have t2 : Step G H ([some (p, ob)] ++ M.eraseIdx j) (upd G p o) H ([none] ++ M.eraseIdx j) := by
    refine ⟨up_upd g0, fun a x e => ?_, fun a x e _ => .inl e, fun a h => .inl ?_⟩
    · by_cases z : a = p
      · subst z
        exact .inr (.inr (by rw [e1]; exact List.mem_cons_self))
      · rw [upd_ne z] at e
        exact .inl e
    · rw [e2] at h
      rw [e1]
      exact List.mem_cons_of_mem _ h
  exact ⟨a2.perm (set_perm h _), (t2.permL (at_perm h).symm).permR (set_perm h _)⟩
end

/-! ### relational results -/
def tER (w : World) (T : List Addr) (ρ : List (Option D)) (M : Mem) (R : D → Mem → Prop) : TE := fun σ H Q => ∃ G, HS w T G H M ∧ SL w G σ ρ ∧
  ∀ v G' H' d M', R d M' → Step G H M G' H' M' → HS w T G' H' M' → Dt w G' v d → Q v H'
abbrev PDR (X : Cx) (T : List Addr) (ρ : List (Option D)) (M : Mem) (e : Expr) (R : D → Mem → Prop) : Prop := PE X e (tER X.w T ρ M R)
section
variable {X : Cx} {T : List Addr} {ρ : List (Option D)} {M M1 M2 M3 : Mem} {d da db dc : D} {a b c e : Expr} {es : List Expr} {pos : Pos} {ds : List D} {R R' : D → Mem → Prop}
theorem pdr_of (h : PD X T ρ M e d M1) : PDR X T ρ M e (fun d' m => d' = d ∧ m = M1) :=
  PE.imp h fun σ H Q ⟨G, hs, sl, k⟩ => ⟨G, hs, sl, fun v G' H' st hs' r => k v G' H' d M1 ⟨rfl, rfl⟩ st hs' r⟩
theorem pd_ofR (h : PDR X T ρ M e R) (u : ∀ d' m, R d' m → d' = d ∧ m = M1) : PD X T ρ M e d M1 :=
  PE.imp h fun σ H Q ⟨G, hs, sl, k⟩ => ⟨G, hs, sl, fun v G' H' d' m r st hs' rd => by obtain ⟨e1, e2⟩ := u d' m r; subst e1; subst e2; exact k v G' H' st hs' rd⟩
theorem pdr_imp (h : PDR X T ρ M e R) (u : ∀ d' m, R d' m → R' d' m) : PDR X T ρ M e R' :=
  PE.imp h fun σ H Q ⟨G, hs, sl, k⟩ => ⟨G, hs, sl, fun v G' H' d' m r st hs' rd => k v G' H' d' m (u d' m r) st hs' rd⟩
end

/-! ### statements -/
def tB (w : World) (T : List Addr) (ρ : List (Option D)) (M : Mem) (Nx : List (Option D) → Mem → Prop) (Rt : D → Mem → Prop) : TS := fun Dd σ H => ∃ G, HS w T G H M ∧ SL w G σ ρ ∧
  (∀ σ' G' H' ρ' M', Nx ρ' M' → Step G H M G' H' M' → HS w T G' H' M' → SL w G' σ' ρ' → Dd.nx σ' H') ∧
  (∀ v G' H' d M', Rt d M' → Step G H M G' H' M' → HS w T G' H' M' → Dt w G' v d → Dd.rt v H')
abbrev PB (X : Cx) (T : List Addr) (ρ : List (Option D)) (M : Mem) (sts : List Stmt) (Nx : List (Option D) → Mem → Prop) (Rt : D → Mem → Prop) : Prop := PSs X sts (tB X.w T ρ M Nx Rt)
abbrev PB1 (X : Cx) (T : List Addr) (ρ : List (Option D)) (M : Mem) (st : Stmt) (Nx : List (Option D) → Mem → Prop) (Rt : D → Mem → Prop) : Prop := PS X st (tB X.w T ρ M Nx Rt)
section
variable {X : Cx} {T : List Addr} {ρ : List (Option D)} {M M1 M2 M3 : Mem} {d da db dc : D} {a b c e : Expr} {es : List Expr} {pos : Pos} {ds : List D} {R R' : D → Mem → Prop}
  {st : Stmt} {rest A B : List Stmt} {Nx Nx1 : List (Option D) → Mem → Prop} {Rt : D → Mem → Prop}
theorem pb_nil (h : Nx ρ M) : PB X T ρ M [] Nx Rt :=
  PSs.imp pss_nil fun D σ H ⟨G, hs, sl, k, _⟩ => k σ G H ρ M h (Step.refl _ _ _) hs sl
theorem pb_one (h : PB1 X T ρ M st Nx Rt) : PB X T ρ M [st] Nx Rt := pss_one h
theorem pb_seq (h : PB1 X T ρ M st Nx1 Rt) (k : ∀ ρ' M', Nx1 ρ' M' → PB X T ρ' M' rest Nx Rt) : PB X T ρ M (st :: rest) Nx Rt :=
  PSs.imp (pss_cons h (PSs.ex fun (x : List (Option D) × Mem) => PSs.exB (P := Nx1 x.1 x.2) (k x.1 x.2))) fun D σ H ⟨G, hs, sl, k1, k2⟩ => ⟨G, hs, sl, fun σ' G' H' ρ' M' n st hs' sl' => ⟨(ρ', M'), n, G', hs', sl',
    fun σ2 G2 H2 ρ2 M2 n2 st2 hs2 sl2 => k1 σ2 G2 H2 ρ2 M2 n2 (st.trans st2) hs2 sl2, fun v G2 H2 d M2 r st2 hs2 rd => k2 v G2 H2 d M2 r (st.trans st2) hs2 rd⟩, k2⟩
/-- x = e -/
theorem pb1_setR (i : Nat) {x : Str} {p : Pos} (he : PDR X T ρ M e R) (k : ∀ d m, R d m → Nx (ρ.set i (some d)) m) (hN : X.N.Nodup) (hi : X.N[i]? = some x := by rfl) (hx : Loc X.env.scope x := by first | exact Or.inl rfl | exact Or.inr rfl)
    (hs : swapsWith e (some (.Name x p)) pos.line X.env = pure false := by rfl) (hf : X.fn x = true ∨ X.env.scope.names.lookup x = some .local := by first | exact .inl rfl | exact .inr rfl | assumption) : PB1 X T ρ M (.Assign [.Name x p] e pos) Nx Rt :=
  PS.imp (ps_set hN hi hx he hs hf) fun D σ H ⟨G, hs, sl, k1, k2⟩ => ⟨G, hs, sl, fun v G' H' d m r st hs' rd => k1 _ G' H' _ m (k d m r) st hs' ((sl.up st.up).set i rd)⟩
theorem pb_setR (i : Nat) {x : Str} {p : Pos} (he : PDR X T ρ M e R) (hN : X.N.Nodup) (k : ∀ d m, R d m → PB X T (ρ.set i (some d)) m rest Nx Rt) (hi : X.N[i]? = some x := by rfl) (hx : Loc X.env.scope x := by first | exact Or.inl rfl | exact Or.inr rfl)
    (hs : swapsWith e (some (.Name x p)) pos.line X.env = pure false := by rfl) (hf : X.fn x = true ∨ X.env.scope.names.lookup x = some .local := by first | exact .inl rfl | exact .inr rfl | assumption) : PB X T ρ M (.Assign [.Name x p] e pos :: rest) Nx Rt :=
  pb_seq (Nx1 := fun ρ' M' => ∃ d, R d M' ∧ ρ' = ρ.set i (some d)) (pb1_setR i he (fun d m r => ⟨d, r, rfl⟩) hN hi hx hs hf) fun ρ' M' ⟨d, r, e⟩ => e ▸ k d M' r
theorem pb_set (i : Nat) {x : Str} {p : Pos} (he : PD X T ρ M e d M1) (hN : X.N.Nodup) (k : PB X T (ρ.set i (some d)) M1 rest Nx Rt) (hi : X.N[i]? = some x := by rfl) (hx : Loc X.env.scope x := by first | exact Or.inl rfl | exact Or.inr rfl)
    (hs : swapsWith e (some (.Name x p)) pos.line X.env = pure false := by rfl) (hf : X.fn x = true ∨ X.env.scope.names.lookup x = some .local := by first | exact .inl rfl | exact .inr rfl | assumption) : PB X T ρ M (.Assign [.Name x p] e pos :: rest) Nx Rt :=
  pb_setR i (pdr_of he) hN (fun d' m ⟨e1, e2⟩ => by subst e1; subst e2; exact k) hi hx hs hf
/-- e -/
theorem pb1_expr (he : PDR X T ρ M e R) (k : ∀ d m, R d m → Nx ρ m) (hs : swapsWith e none pos.line X.env = pure false := by rfl) : PB1 X T ρ M (.Expr e pos) Nx Rt :=
  PS.imp (ps_expr he hs) fun D σ H ⟨G, hs, sl, k1, k2⟩ => ⟨G, hs, sl, fun v G' H' d m r st hs' rd => k1 _ G' H' _ m (k d m r) st hs' (sl.up st.up)⟩
theorem pb_expr (he : PD X T ρ M e d M1) (k : PB X T ρ M1 rest Nx Rt) (hs : swapsWith e none pos.line X.env = pure false := by rfl) : PB X T ρ M (.Expr e pos :: rest) Nx Rt :=
  pb_seq (Nx1 := fun ρ' m => ρ' = ρ ∧ m = M1) (pb1_expr (pdr_of he) (fun d' m ⟨_, e⟩ => ⟨rfl, e⟩) hs) fun ρ' m ⟨e1, e2⟩ => by subst e1; subst e2; exact k
/-- return e -/
theorem pb1_retR (he : PDR X T ρ M e R) (k : ∀ d m, R d m → Rt d m) : PB1 X T ρ M (.Return (some e) pos) Nx Rt :=
  PS.imp (ps_ret he) fun D σ H ⟨G, hs, sl, k1, k2⟩ => ⟨G, hs, sl, fun v G' H' d m r st hs' rd => k2 v G' H' d m (k d m r) st hs' rd⟩
theorem pb_ret (he : PD X T ρ M e d M1) (k : Rt d M1) : PB X T ρ M (.Return (some e) pos :: rest) Nx Rt :=
  PSs.imp (pss_cons (ps_ret he) (pss_never (sts := rest))) fun D σ H ⟨G, hs, sl, k1, k2⟩ => ⟨G, hs, sl, fun v G' H' st hs' rd => k2 v G' H' d M1 k st hs' rd⟩
theorem pb_retR (he : PDR X T ρ M e R) (k : ∀ d m, R d m → Rt d m) : PB X T ρ M (.Return (some e) pos :: rest) Nx Rt :=
  PSs.imp (pss_cons (ps_ret he) (pss_never (sts := rest))) fun D σ H ⟨G, hs, sl, k1, k2⟩ => ⟨G, hs, sl, fun v G' H' d m r st hs' rd => k2 v G' H' d m (k d m r) st hs' rd⟩
theorem pb_retN (k : Rt .non M) : PB X T ρ M (.Return none pos :: rest) Nx Rt :=
  PSs.imp (pss_cons ps_retN (pss_never (sts := rest))) fun D σ H ⟨G, hs, sl, k1, k2⟩ => k2 .non G H .non M k (Step.refl _ _ _) hs .non
theorem pb_pass (k : PB X T ρ M rest Nx Rt) : PB X T ρ M (.Pass pos :: rest) Nx Rt :=
  PSs.imp (pss_cons ps_pass k) fun D σ H h => h
theorem pb_doc {x : Str} {j : Nat} {p : Pos} (k : PB X T ρ M rest Nx Rt) : PB X T ρ M (.Expr (.Constant (.str x) j p) pos :: rest) Nx Rt :=
  PSs.imp (pss_cons ps_doc k) fun D σ H h => h
/-- if -/
theorem pb1_if {k : Bool} (hc : PDT X T ρ M c k M1) (h1 : k = true → PB X T ρ M1 A Nx Rt) (h2 : k = false → PB X T ρ M1 B Nx Rt) : PB1 X T ρ M (.If c A B pos) Nx Rt :=
  PS.imp (ps_if hc (PSs.exB (P := k = true) h1) (PSs.exB (P := k = false) h2)) fun D σ H ⟨G, hs, sl, k1, k2⟩ => ⟨G, hs, sl, fun G1 H1 st hs1 => by
    cases k with
    | true => exact ⟨rfl, G1, hs1, sl.up st.up, fun σ2 G2 H2 ρ2 M2 n2 st2 hs2 sl2 => k1 σ2 G2 H2 ρ2 M2 n2 (st.trans st2) hs2 sl2, fun v G2 H2 d M2 r st2 hs2 rd => k2 v G2 H2 d M2 r (st.trans st2) hs2 rd⟩
    | false => exact ⟨rfl, G1, hs1, sl.up st.up, fun σ2 G2 H2 ρ2 M2 n2 st2 hs2 sl2 => k1 σ2 G2 H2 ρ2 M2 n2 (st.trans st2) hs2 sl2, fun v G2 H2 d M2 r st2 hs2 rd => k2 v G2 H2 d M2 r (st.trans st2) hs2 rd⟩⟩
theorem pb_if {k : Bool} (hc : PDT X T ρ M c k M1) (h1 : k = true → PB X T ρ M1 A Nx1 Rt) (h2 : k = false → PB X T ρ M1 B Nx1 Rt) (h : ∀ ρ' M', Nx1 ρ' M' → PB X T ρ' M' rest Nx Rt) : PB X T ρ M (.If c A B pos :: rest) Nx Rt :=
  pb_seq (pb1_if hc h1 h2) h
/-- if c: .. that ends with a return (or a raise that is never come to), then the rest -/
theorem pb_ifret {k : Bool} (hc : PDT X T ρ M c k M1) (h1 : k = true → PB X T ρ M1 A (fun _ _ => False) Rt) (h2 : k = false → PB X T ρ M1 rest Nx Rt) : PB X T ρ M (.If c A [] pos :: rest) Nx Rt :=
  pb_seq (Nx1 := fun ρ' m => k = false ∧ ρ' = ρ ∧ m = M1) (pb1_if hc (fun q => PSs.imp (h1 q) fun D σ H ⟨G, hs, sl, k1, k2⟩ => ⟨G, hs, sl, fun _ _ _ _ _ f => f.elim, k2⟩) fun q => pb_nil ⟨q, rfl, rfl⟩) fun ρ' m ⟨q, e1, e2⟩ => by subst e1; subst e2; exact h2 q
/-- the test is no: nothing is done -/
theorem pb_ifno (hc : PDT X T ρ M c false M1) (h2 : PB X T ρ M1 rest Nx Rt) : PB X T ρ M (.If c A [] pos :: rest) Nx Rt :=
  pb_seq (Nx1 := fun ρ' m => ρ' = ρ ∧ m = M1) (pb1_if hc (fun q => by cases q) fun q => pb_nil ⟨rfl, rfl⟩) fun ρ' m ⟨e1, e2⟩ => by subst e1; subst e2; exact h2
theorem pb_never (h : False) : PB X T ρ M A Nx Rt := h.elim
end

/-! ### defs -/
/-- a def's promise: x stands for the arguments' data and what is owned ahead of it -/
def spC (w : World) (T : List Addr) {α : Type} (args : α → List D) (Mf : α → Mem) (post : α → D → Mem → Prop) : Sp := fun vs H Q _ => ∃ (x : α) (G : Hp), HS w T G H (Mf x) ∧ DtL w G vs (args x) ∧
  ∀ v G' H' d M', post x d M' → Step G H (Mf x) G' H' M' → HS w T G' H' M' → Dt w G' v d → Q v H'
/-- a def of the text with its code object -/
structure FunC (K : PySem.W.Frag) (x qual : Str) (st : Stmt) (f : Addr) (fd : FuncData) (cdv : Value) : Prop where
  ex : ∃ (oc : Value) (od : Option Addr) (dV kV doc pm : Value) (an : Option Addr) (ct : Value) (osl : Array (Option Value)),
    fd = PySem.W.fnOf x qual (defArgs st) (defBody st) (defScope st) dV kV doc pm an cdv ct ∧ K.lookup f = some ⟨oc, od, .func fd, osl⟩ ∧ PySem.W.codeIn K cdv qual = true
  kp : PySem.W.keepIn K (.ref f) = true
def slots (N : List Str) (ds : List D) : List (Option D) := ds.map some ++ List.replicate (N.length - ds.length) none
theorem SL.start {w : World} {G : Hp} {N : List Str} {vs : List V} {ds : List D} (r : DtL w G vs ds) : SL w G (L2.start N vs) (slots N ds) := by
  unfold L2.start slots
  refine ⟨by simp [r.length], fun i d h => ?_⟩
  by_cases hi : i < ds.length
  · rw [List.getElem?_append_left (by simpa using hi), List.getElem?_map] at h
    cases e : ds[i]? with
    | none => rw [e] at h; cases h
    | some d' =>
      rw [e] at h
      cases h
      obtain ⟨v, h1, h2⟩ := r.get e
      refine ⟨v, ?_, h2⟩
      rw [List.getElem?_append_left (by rw [List.length_map, r.length]; exact hi), List.getElem?_map, h1]
      rfl
  · rw [List.getElem?_append_right (by simpa using hi), List.getElem?_replicate] at h
    split at h <;> cases h
section
variable {P : Program} {w : World} {K : PySem.W.Frag} {mg : Str → Option Value} {base : Heap} {T : List Addr} {α : Type} {args : α → List D} {Mf : α → Mem} {post : α → D → Mem → Prop}
theorem fn_ok {nm qual : Str} {st : Stmt} {f : Addr} {fd : FuncData} {cdv : Value} {N ps : List Str} {k : Nat} (F : FunC K nm qual st f fd cdv) (S : FnScope N ps (defScope st)) (ρ : α → List (Option D))
    (hb : ∀ (x : α) (A : Around) (outer : List Env) (s : Shared) (H : Hp) (E : XK), Room k (A.deeper (envOfC qual (defScope st) s.heap.objs.size f cdv)) →
      PB (cxOf CX0 P w K mg base N qual (defScope st) f cdv A outer s H E).nox T (ρ x) (Mf x) (defBody st) (fun _ m => post x .non m) (post x))
    (hl : ∀ x, (args x).length = ps.length := by intros; rfl) (hρ : ∀ x, slots N (args x) = ρ x := by intros; rfl) : FnOk P w K mg base CX0 (k + 1) f fd ps (spC w T args Mf post) := by
  obtain ⟨oc, od, dV, kV, doc, pm, an, ct, osl, rfl, lk, hcd⟩ := F.ex
  refine fn_of lk hcd S (fun vs H Q E h => ?_) fun A outer s H vs Q E hr hsp => ?_
  · obtain ⟨x, G, _, r, _⟩ := h
    rw [r.length, hl]
  · obtain ⟨x, G, hs, r, k⟩ := hsp
    refine ⟨_, (hb x A outer s H E hr).nox, G, hs, ?_, fun σ' G' H' ρ' M' n st hs' sl' => ?_, fun v G' H' d M' n st hs' rd => k v G' H' d M' n st hs' rd⟩
    · rw [← hρ]
      exact SL.start r
    · exact k .non G' H' .non M' n st hs' .non
end

/-! ### calls -/
section
variable {X : Cx} {T : List Addr} {ρ : List (Option D)} {M M1 M2 M3 : Mem} {d da db dc : D} {a b c e o : Expr} {es : List Expr} {pos p apos : Pos} {ds dvs : List D} {R : D → Mem → Prop}
  {α : Type} {args : α → List D} {Mf : α → Mem} {post : α → D → Mem → Prop} {k : Nat} {f C : Addr} {fd : FuncData} {ps : List Str} {nm : Str} {dV : List V} {dU : List Value}
/-- what is owned, and the callee's part of it; Mo what is owned behind the call, by the callee's part behind it -/
structure Fram (M Mf : Mem) (Mo : Mem → Mem) : Prop where
  ex : ∃ R, M.Perm (Mf ++ R) ∧ ∀ m, (m ++ R).Perm (Mo m)
theorem Fram.nil : Fram M [] (fun m => m ++ M) := ⟨M, List.Perm.refl _, fun _ => List.Perm.refl _⟩
theorem Fram.none : Fram M [] (fun m => M ++ m) := ⟨M, List.Perm.refl _, fun _ => List.perm_append_comm⟩
theorem Fram.all : Fram M M (fun m => m) := ⟨[], by rw [List.append_nil], fun m => by rw [List.append_nil]⟩
/-- one chunk, at place j; what is new is put behind -/
def putM (M : Mem) (j : Nat) : Mem → Mem
  | [] => M
  | c :: r => M.set j c ++ r
theorem perm_in {x y : Mem} (h : ∀ m : Mem, (m ++ x).Perm (m ++ y)) : x.Perm y := by simpa using h []
theorem Fram.one (j : Nat) {c : Option (Addr × Ob)} (h : M[j]? = some c := by rfl) : Fram M [c] (fun m => match m with | [] => M.eraseIdx j | c' :: r => M.set j c' ++ r) :=
  ⟨M.eraseIdx j, at_perm h, fun m => by
    cases m with
    | nil => exact List.Perm.refl _
    | cons c' r =>
      show (c' :: (r ++ M.eraseIdx j)).Perm (M.set j c' ++ r)
      have h1 : (r ++ M.eraseIdx j).Perm (M.eraseIdx j ++ r) := List.perm_append_comm
      refine (h1.cons c').trans ?_
      show (([c'] ++ M.eraseIdx j) ++ r).Perm _
      exact (set_perm h c').append_right r⟩
/-- two chunks, at places i < j -/
theorem Fram.two (i j : Nat) {c c2 : Option (Addr × Ob)} (h : M[i]? = some c := by rfl) (h2 : (M.eraseIdx i)[j]? = some c2 := by rfl) :
    Fram M [c, c2] (fun m => match m with | c' :: c2' :: r => (c' :: ((M.eraseIdx i).set j c2' ++ r)) | m => m ++ (M.eraseIdx i).eraseIdx j) :=
  ⟨(M.eraseIdx i).eraseIdx j, (at_perm h).trans ((at_perm h2).cons c), fun m => by
    match m with
    | [] => exact List.Perm.refl _
    | [_] => exact List.Perm.refl _
    | c' :: c2' :: r =>
      show (c' :: c2' :: (r ++ (M.eraseIdx i).eraseIdx j)).Perm (c' :: ((M.eraseIdx i).set j c2' ++ r))
      refine List.Perm.cons c' ?_
      have h1 : (r ++ (M.eraseIdx i).eraseIdx j).Perm ((M.eraseIdx i).eraseIdx j ++ r) := List.perm_append_comm
      refine (h1.cons c2').trans ?_
      show (([c2'] ++ (M.eraseIdx i).eraseIdx j) ++ r).Perm _
      exact (set_perm h2 c2').append_right r⟩
/-- from the caller's state to the callee's promise -/
theorem to_sp {w : World} {Mo : Mem → Mem} {x : α} {G H : Hp} {vs : List V} {Q : VK} {E : XK} (fr : Fram M1 (Mf x) Mo) (hs : HS w T G H M1) (r : DtL w G vs (args x))
    (k : ∀ v G' H' d m, post x d m → Step G H M1 G' H' (Mo m) → HS w T G' H' (Mo m) → Dt w G' v d → Q v H') : spC w T args Mf post vs H Q E := by
  obtain ⟨R, h1, h2⟩ := fr.ex
  have s1 := hs.perm h1
  refine ⟨x, G, s1.left, r, fun v G' H' d m hp st hs' rd => ?_⟩
  obtain ⟨t, s2⟩ := frame_ok s1 st hs'
  exact k v G' H' d m hp ((t.permL h1.symm).permR (h2 m)) (s2.perm (h2 m)) rd
/-- the defaults that fill up -/
structure Dfl (w : World) (dV : List V) (dvs : List D) : Prop where
  ok : ∀ G, DtL w G dV dvs
theorem Dfl.nil {w : World} : Dfl w [] [] := ⟨fun _ => .nil⟩
/-- f(..) -/
theorem pdr_callD (x : α) {Mo : Mem → Mem} (F : FnOk X.prog X.w X.K X.mg X.base CX0 k f fd ps (spC X.w T args Mf post)) (hr : Room k X.A) (hm : X.mg nm = some (.ref f)) (hk : PySem.W.keepIn X.K (.ref f) = true) (hb : Binds X.K fd ps dU) (hd : Vals dV dU) (hD : Dfl X.w dV dvs)
    (ha : PDL X T ρ M (e :: es) ds M1) (hx : args x = ds ++ dvs) (fr : Fram M1 (Mf x) Mo) (hg : Gl X nm := by rfl) (hdb : (nm == ("__debug__" : Str)) = false := by decide) (he : starEach (e :: es) X.env = (false, eval e X.env) :: starEach es X.env := by rfl) (hpl : (backTo pos (starEach es X.env)).any (·.1) = false := by rfl) :
    PDR X T ρ M (.Call (.Name nm p) (e :: es) [] pos) (fun d m => ∃ m', m = Mo m' ∧ post x d m') :=
  (pe_call F hr hg hm hk hb hd pass0 ha hdb he hpl).imp fun σ H Q ⟨G, hs, sl, k⟩ => ⟨G, hs, sl, fun vs G1 H1 st1 hs1 r1 =>
    to_sp fr hs1 (by rw [hx]; exact r1.app (hD.ok _)) fun v G' H' d m hp st hs' rd => k v G' H' d _ ⟨m, rfl, hp⟩ (st1.trans st) hs' rd⟩
theorem pdr_call (x : α) {Mo : Mem → Mem} (F : FnOk X.prog X.w X.K X.mg X.base CX0 k f fd ps (spC X.w T args Mf post)) (hr : Room k X.A) (hm : X.mg nm = some (.ref f)) (hk : PySem.W.keepIn X.K (.ref f) = true) (hb : Binds X.K fd ps [])
    (ha : PDL X T ρ M (e :: es) ds M1) (hx : args x = ds) (fr : Fram M1 (Mf x) Mo) (hg : Gl X nm := by rfl) (hdb : (nm == ("__debug__" : Str)) = false := by decide) (he : starEach (e :: es) X.env = (false, eval e X.env) :: starEach es X.env := by rfl) (hpl : (backTo pos (starEach es X.env)).any (·.1) = false := by rfl) :
    PDR X T ρ M (.Call (.Name nm p) (e :: es) [] pos) (fun d m => ∃ m', m = Mo m' ∧ post x d m') :=
  pdr_callD x F hr hm hk hb .nil Dfl.nil ha (by rw [hx, List.append_nil]) fr hg hdb he hpl
/-- o.m(..) -/
theorem pdr_meth (x : α) {Mo : Mem → Mem} {fs : List (Str × D)} {pl : Sem Bool} (F : FnOk X.prog X.w X.K X.mg X.base CX0 k f fd ps (spC X.w T args Mf post)) (hr : Room k X.A) (c : Cls X.K C) (hm : Meth X.K C nm f) (hb : Binds X.K fd ps [])
    (ho : PD X T ρ M o da M1) (ov : OV M1 da C fs) (ha : PDL X T ρ M1 (e :: es) ds M2) (hx : args x = da :: ds) (fr : Fram M2 (Mf x) Mo) (hl : fs.lookup nm = none := by rfl)
    (hst : starEach (e :: es) X.env = (false, eval e X.env) :: starEach es X.env := by rfl) (hpl : (backTo pos (starEach es X.env)).any (·.1) = false := by rfl)
    (ht : eval (.Call (.Attribute o nm apos) (e :: es) [] pos) X.env = (do
      let ov ← eval o X.env
      standAt apos.atName
      let (f, first) ← holding [ov] (getMethod ov nm pl)
      callWith pos f first (backTo pos (starEach (e :: es) X.env)) (backToKw pos (keywordEach [] X.env))) := by rfl) :
    PDR X T ρ M (.Call (.Attribute o nm apos) (e :: es) [] pos) (fun d m => ∃ m', m = Mo m' ∧ post x d m') :=
  (pe_meth ho c hm F hr hb .nil pass0 ha hst hpl ht).imp fun σ H Q ⟨G, hs, sl, k⟩ => ⟨G, hs, sl, fun v G1 H1 st1 hs1 r1 => by
    obtain ⟨p, dx, ws, rfl, eq, r⟩ := ov.get hs1 r1
    refine ⟨p, dx, ws, rfl, eq, r.none hl, G1, hs1, sl.up st1.up, fun vs G2 H2 st2 hs2 r2 => ?_⟩
    refine to_sp fr hs2 (by rw [hx, List.append_nil]; exact .cons (r1.up st2.up) r2) fun v G' H' d m hp st hs' rd => k v G' H' d _ ⟨m, rfl, hp⟩ ((st1.trans st2).trans st) hs' rd⟩
theorem pdr_meth0 (x : α) {Mo : Mem → Mem} {fs : List (Str × D)} {pl : Sem Bool} (F : FnOk X.prog X.w X.K X.mg X.base CX0 k f fd ps (spC X.w T args Mf post)) (hr : Room k X.A) (c : Cls X.K C) (hm : Meth X.K C nm f) (hb : Binds X.K fd ps [])
    (ho : PD X T ρ M o da M1) (ov : OV M1 da C fs) (hx : args x = [da]) (fr : Fram M1 (Mf x) Mo) (hl : fs.lookup nm = none := by rfl)
    (ht : eval (.Call (.Attribute o nm apos) [] [] pos) X.env = (do
      let ov ← eval o X.env
      standAt apos.atName
      let (f, first) ← holding [ov] (getMethod ov nm pl)
      callWith pos f first (backTo pos (starEach [] X.env)) (backToKw pos (keywordEach [] X.env))) := by rfl) :
    PDR X T ρ M (.Call (.Attribute o nm apos) [] [] pos) (fun d m => ∃ m', m = Mo m' ∧ post x d m') :=
  (pe_meth0 ho c hm F hr hb .nil pass0 ht).imp fun σ H Q ⟨G, hs, sl, k⟩ => ⟨G, hs, sl, fun v G1 H1 st1 hs1 r1 => by
    obtain ⟨p, dx, ws, rfl, eq, r⟩ := ov.get hs1 r1
    refine ⟨p, dx, ws, rfl, eq, r.none hl, ?_⟩
    refine to_sp (E := E0) fr hs1 (by rw [hx]; exact .cons r1 .nil) fun v G' H' d m hp st hs' rd => k v G' H' d _ ⟨m, rfl, hp⟩ (st1.trans st) hs' rd⟩
/-- C(..): __init__'s promise is asked of a bare new instance of ours, first in its part -/
theorem pdr_makeD {g : Addr} (x : Addr → α) (Mr : Addr → Mem) (F : FnOk X.prog X.w X.K X.mg X.base CX0 k g fd ps (spC X.w T args Mf post)) (hM : Mk X.K C g) (hr : Room (k + 1) X.A) (hm : X.mg nm = some (.ref C)) (hb : Binds X.K fd ps dU) (hd : Vals dV dU) (hD : Dfl X.w dV dvs)
    (ha : PDL X T ρ M (e :: es) ds M1) (hx : ∀ q, args (x q) = .ref q :: (ds ++ dvs)) (hf : ∀ q, Mf (x q) = [some (q, .obj C [])]) (hp : ∀ q d m, post (x q) d m → d = .non)
    (hg : Gl X nm := by rfl) (hdb : (nm == ("__debug__" : Str)) = false := by decide) (he : starEach (e :: es) X.env = (false, eval e X.env) :: starEach es X.env := by rfl) (hpl : (backTo pos (starEach es X.env)).any (·.1) = false := by rfl) :
    PDR X T ρ M (.Call (.Name nm p) (e :: es) [] pos) (fun d m => ∃ q m', d = .ref q ∧ m = M1 ++ m' ∧ post (x q) .non m') :=
  (pe_make hM F hr hg hm hb hd pass0 ha hdb he hpl).imp fun σ H Q ⟨G, hs, sl, k⟩ => ⟨G, hs, sl, fun vs G1 H1 st1 hs1 r1 q dx hq hdx ne => by
    have a0 := hs1.new hdx (o := .own q) fun _ z => by cases z
    have t0 := Step.newI hs1 hdx (o := .own q)
    have hq' : upd H1 dx (.own q) q = none := by rw [upd_ne ne.symm]; exact hq
    obtain ⟨a1, t1⟩ := a0.own (ob := .obj C []) (o := .ins C dx []) hq' (fun _ z => by cases z) (fun H' h => ⟨dx, [], h, .nil⟩)
    have up0 := up_upd (o := HO.own q) (hs1.freshG hdx)
    refine to_sp (x := x q) (Mo := fun m => M1 ++ m) ⟨M1, ?_, fun m => List.perm_append_comm⟩ a1 ?_ fun v G' H' d m hpo st hs' rd => ?_
    · rw [hf]
      exact List.perm_append_comm
    · rw [hx]
      exact .cons (.ref q) ((r1.up up0).app (hD.ok _))
    · have e0 := hp q d m hpo
      subst e0
      cases rd
      exact ⟨rfl, k _ G' H' (.ref q) _ ⟨q, m, rfl, rfl, hpo⟩ (((st1.trans t0).trans t1).trans st) hs' (.ref q)⟩⟩
theorem pdr_make0 {g : Addr} (x : Addr → α) (F : FnOk X.prog X.w X.K X.mg X.base CX0 k g fd ps (spC X.w T args Mf post)) (hM : Mk X.K C g) (hr : Room (k + 1) X.A) (hm : X.mg nm = some (.ref C)) (hb : Binds X.K fd ps [])
    (hx : ∀ q, args (x q) = [.ref q]) (hf : ∀ q, Mf (x q) = [some (q, .obj C [])]) (hp : ∀ q d m, post (x q) d m → d = .non)
    (hg : Gl X nm := by rfl) (hdb : (nm == ("__debug__" : Str)) = false := by decide) :
    PDR X T ρ M (.Call (.Name nm p) [] [] pos) (fun d m => ∃ q m', d = .ref q ∧ m = M ++ m' ∧ post (x q) .non m') :=
  (pe_make0 hM F hr hg hm hb .nil pass0 hdb).imp fun σ H Q ⟨G, hs1, sl, k⟩ => fun q dx hq hdx ne => by
    have a0 := hs1.new hdx (o := .own q) fun _ z => by cases z
    have t0 := Step.newI hs1 hdx (o := .own q)
    have hq' : upd H dx (.own q) q = none := by rw [upd_ne ne.symm]; exact hq
    obtain ⟨a1, t1⟩ := a0.own (ob := .obj C []) (o := .ins C dx []) hq' (fun _ z => by cases z) (fun H' h => ⟨dx, [], h, .nil⟩)
    refine to_sp (x := x q) (Mo := fun m => M ++ m) ⟨M, ?_, fun m => List.perm_append_comm⟩ a1 ?_ fun v G' H' d m hpo st hs' rd => ?_
    · rw [hf]
      exact List.perm_append_comm
    · rw [hx]
      exact .cons (.ref q) .nil
    · have e0 := hp q d m hpo
      subst e0
      cases rd
      exact ⟨rfl, k _ G' H' (.ref q) _ ⟨q, m, rfl, rfl, hpo⟩ ((t0.trans t1).trans st) hs' (.ref q)⟩
end
end LW

set_option Elab.async false
set_option linter.all false
set_option maxRecDepth 100000
set_option maxHeartbeats 2000000
/-! LE: what is walked; for, while; list comprehensions; stores. -/
namespace LW
open PySem PySem.Spec PyProof.Rows L2
/-- an iterator, made at (G0, H0, M0), that gives ds while ok of what is owned -/
structure ItD (w : World) (T : List Addr) (ok : Mem → Prop) (ds : List D) (J : It) (G0 H0 : Hp) (M0 : Mem) : Prop where
  go : ∀ (i : Nat) (G H : Hp) (M : Mem), i < ds.length → Step G0 H0 M0 G H M → HS w T G H M → ok M → J.go i H
  yld : ∀ (i : Nat) (G H : Hp) (M : Mem) (x : V) (H' : Hp) (d : D), Step G0 H0 M0 G H M → HS w T G H M → ok M → ds[i]? = some d → J.yld i H x H' → ∃ G', Step G H M G' H' M ∧ HS w T G' H' M ∧ Dt w G' x d
  stop : ∀ (G H : Hp) (M : Mem), Step G0 H0 M0 G H M → HS w T G H M → ok M → J.stop ds.length H
def tI (w : World) (T : List Addr) (ρ : List (Option D)) (M : Mem) (ds : List D) (M' : Mem) (ok : Mem → Prop) : TI := fun σ H R => ∃ G, HS w T G H M ∧ SL w G σ ρ ∧
  ∀ J G' H', Step G H M G' H' M' → HS w T G' H' M' → ItD w T ok ds J G' H' M' → R J H'
abbrev PDI (X : Cx) (T : List Addr) (ρ : List (Option D)) (M : Mem) (tg iter : Expr) (ds : List D) (M' : Mem) (ok : Mem → Prop) : Prop := PI X tg iter (tI X.w T ρ M ds M' ok)
theorem _root_.L2.PI.imp {X : Cx} {tg iter : Expr} {t t' : TI} (h : PI X tg iter t) (k : ∀ σ H R, t' σ H R → t σ H R) : PI X tg iter t' :=
  ⟨fun pins s σ H R I q => h.run pins s σ H R I (k _ _ _ q)⟩
theorem _root_.L2.PTs.imp {X : Cx} {e : List Expr} {t t' : TT} (h : PTs X e t) (k : ∀ σ H Q, t' σ H Q → t σ H Q) : PTs X e t' :=
  ⟨fun pins s σ H Q I q => h.run pins s σ H Q I (k _ _ _ q)⟩
theorem _root_.L2.PTs.ex {X : Cx} {e : List Expr} {α : Type} {t : α → TT} (h : ∀ x, PTs X e (t x)) : PTs X e (fun σ H Q => ∃ x, t x σ H Q) :=
  ⟨fun pins s σ H Q I ⟨x, q⟩ => (h x).run pins s σ H Q I q⟩
theorem _root_.L2.PTs.exB {X : Cx} {e : List Expr} {t : TT} {P : Prop} (h : P → PTs X e t) : PTs X e (fun σ H Q => P ∧ t σ H Q) :=
  ⟨fun pins s σ H Q I q => (h q.1).run pins s σ H Q I q.2⟩
abbrev PDTs (X : Cx) (T : List Addr) (ρ : List (Option D)) (M : Mem) (e : List Expr) (b : Bool) (M' : Mem) : Prop := PTs X e (tET X.w T ρ M b M')
/-- where an item goes: which slots, and what into them -/
structure Tgt (w : World) (g : TG) (is : List Nat) (unp : D → Option (List D)) : Prop where
  ok : ∀ (T : List Addr) (v : V) (σ : L2.St) (G H : Hp) (M : Mem) (Q : L2.St → Hp → Prop) (d : D) (ds : List D), HS w T G H M → Dt w G v d → unp d = some ds → (∀ σ', (∀ ρ, SL w G σ ρ → SL w G σ' ((is.zip ds).foldl (fun r p => r.set p.1 (some p.2)) ρ)) → (∀ vs : List Nat, (∀ i ∈ is, i ∈ vs) → wipe σ' vs = wipe σ vs) → Q σ' H) → g v σ H Q
def setsD (ρ : List (Option D)) (is : List Nat) (ds : List D) : List (Option D) := (is.zip ds).foldl (fun r p => r.set p.1 (some p.2)) ρ
def un1 : D → Option (List D) := fun d => some [d]
def unT (n : Nat) : D → Option (List D) := fun d => match d with
  | .tup ds => if ds.length = n then some ds else none
  | _ => none
theorem wipe_set {σ : L2.St} {i : Nat} {x : Option V} : ∀ {vs : List Nat}, i ∈ vs → wipe (σ.set i x) vs = wipe σ vs
  | v :: vs, h => by
    unfold wipe
    by_cases e : i ∈ vs
    · rw [wipe_set e]
    · rcases List.mem_cons.mp h with q | q
      · subst q
        have hh : ∀ us : List Nat, i ∉ us → wipe (σ.set i x) us = (wipe σ us).set i x := by
          intro us
          induction us with
          | nil => intro _; rfl
          | cons u us ih =>
            intro hn
            unfold wipe
            rw [ih fun z => hn (List.mem_cons_of_mem _ z)]
            exact List.set_comm _ _ fun z => hn (z ▸ List.mem_cons_self)
        rw [hh vs e, List.set_set]
      · exact absurd q e
theorem wipe_wipe {σ : L2.St} : ∀ {vs us : List Nat}, (∀ i ∈ vs, i ∈ us) → wipe (wipe σ vs) us = wipe σ us
  | [], _, _ => rfl
  | v :: vs, us, h => by
    show wipe ((wipe σ vs).set v none) us = _
    rw [wipe_set (h v List.mem_cons_self)]
    exact wipe_wipe fun i hi => h i (List.mem_cons_of_mem _ hi)
theorem tgt_name {w : World} (i : Nat) : Tgt w (gName i) [i] un1 := ⟨fun T v σ G H M Q d ds hs r e k => by
  cases e
  exact k _ (fun ρ sl => sl.set i r) fun vs h => wipe_set (h i List.mem_cons_self)⟩
section
variable {w : World} {K : PySem.W.Frag}
theorem gcons_ok {G H : Hp} {Q : L2.St → Hp → Prop} : ∀ {is : List Nat} {vs : List V} {ds : List D} {σ : L2.St}, is.length = ds.length → DtL w G vs ds →
    (∀ σ', (∀ ρ, SL w G σ ρ → SL w G σ' ((is.zip ds).foldl (fun r p => r.set p.1 (some p.2)) ρ)) → (∀ us : List Nat, (∀ i ∈ is, i ∈ us) → wipe σ' us = wipe σ us) → Q σ' H) → (is.foldr (fun i t => gCons (gName i) t) gNil) vs σ H Q
  | [], vs, ds, σ, e, r, k => by
    cases r with
    | nil => exact ⟨rfl, k σ (fun ρ sl => sl) fun _ _ => rfl⟩
    | cons h r => cases e
  | i :: is, vs, ds, σ, e, r, k => by
    cases r with
    | nil => cases e
    | cons h r =>
      refine ⟨_, _, rfl, ?_⟩
      refine gcons_ok (is := is) (by simpa using e) r fun σ' h1 h2 => k σ' (fun ρ sl => h1 _ (sl.set i h)) fun us hu => ?_
      rw [h2 us fun j hj => hu j (List.mem_cons_of_mem _ hj)]
      exact wipe_set (hu i List.mem_cons_self)
theorem tgt_tup (is : List Nat) : Tgt w (gTup K is.length (is.foldr (fun i t => gCons (gName i) t) gNil)) is (unT is.length) := ⟨fun T v σ G H M Q d ds hs r e k => by
  cases d with
  | tup es =>
    unfold unT at e
    simp only at e
    split at e
    · rename_i hl
      cases e
      obtain ⟨a, xs, rfl, h1, h2⟩ := r.tupH hs
      exact ⟨a, xs, rfl, SqT.of h1, by rw [h2.length, hl], gcons_ok hl.symm h2 k⟩
    · cases e
  | _ => cases e⟩
end
section
variable {X : Cx} {T : List Addr} {ρ ρ' : List (Option D)} {M M1 M2 M3 M' : Mem} {d da db dc : D} {a b c e iter tg : Expr} {es : List Expr} {pos p tpos : Pos} {ds : List D} {ok : Mem → Prop}
  {st : Stmt} {rest body : List Stmt} {Nx Nx1 : List (Option D) → Mem → Prop} {Rt : D → Mem → Prop}
/-! ### the sources -/
theorem pdi_list (l : LV M1 da ds) (h : PD X T ρ M e da M1) : PDI X T ρ M tg e ds M1 (fun m => LV m da ds) :=
  (pi_list h).imp fun σ H R ⟨G, hs, sl, k⟩ => ⟨G, hs, sl, fun v G1 H1 st hs1 r => by
    obtain ⟨q, xs, rfl, e1, r1⟩ := l.get hs1 r
    refine ⟨q, rfl, ⟨xs, SqL.of e1⟩, k _ G1 H1 st hs1 ⟨fun i G2 H2 M2 hi st2 hs2 hok => ?_, fun i G2 H2 M2 x H' d st2 hs2 hok hd hy => ?_, fun G2 H2 M2 st2 hs2 hok => ?_⟩⟩
    · obtain ⟨q', ys, eq, e2, r2⟩ := hok.get hs2 (r.up st2.up)
      cases eq
      have hl : i < ys.length := by rw [r2.length]; exact hi
      exact ⟨ys, ys[i], SqL.of e2, List.getElem?_eq_getElem hl⟩
    · obtain ⟨q', ys, eq, e2, r2⟩ := hok.get hs2 (r.up st2.up)
      cases eq
      obtain ⟨rfl, hx⟩ := hy
      obtain ⟨u, hu, ru⟩ := r2.get hd
      have := hx ys (SqL.of e2)
      rw [hu] at this
      cases this
      exact ⟨G2, Step.refl _ _ _, hs2, ru⟩
    · obtain ⟨q', ys, eq, e2, r2⟩ := hok.get hs2 (r.up st2.up)
      cases eq
      exact ⟨ys, SqL.of e2, by rw [r2.length]; exact Nat.le_refl _⟩⟩
theorem pdi_tup (h : PD X T ρ M e (.tup ds) M1) : PDI X T ρ M tg e ds M1 (fun _ => True) :=
  (pi_tup h).imp fun σ H R ⟨G, hs, sl, k⟩ => ⟨G, hs, sl, fun v G1 H1 st hs1 r => by
    obtain ⟨q, xs, rfl, e1, r1⟩ := r.tupH hs1
    refine ⟨q, rfl, ⟨xs, SqT.of e1⟩, k _ G1 H1 st hs1 ⟨fun i G2 H2 M2 hi st2 hs2 hok => ?_, fun i G2 H2 M2 x H' d st2 hs2 hok hd hy => ?_, fun G2 H2 M2 st2 hs2 hok => ?_⟩⟩
    · obtain ⟨q', ys, eq, e2, r2⟩ := (r.up st2.up).tupH hs2
      cases eq
      have hl : i < ys.length := by rw [r2.length]; exact hi
      exact ⟨ys, ys[i], SqT.of e2, List.getElem?_eq_getElem hl⟩
    · obtain ⟨q', ys, eq, e2, r2⟩ := (r.up st2.up).tupH hs2
      cases eq
      obtain ⟨rfl, hx⟩ := hy
      obtain ⟨u, hu, ru⟩ := r2.get hd
      have := hx ys (SqT.of e2)
      rw [hu] at this
      cases this
      exact ⟨G2, Step.refl _ _ _, hs2, ru⟩
    · obtain ⟨q', ys, eq, e2, r2⟩ := (r.up st2.up).tupH hs2
      cases eq
      exact ⟨ys, SqT.of e2, by rw [r2.length]; exact Nat.le_refl _⟩⟩
/-- n whole numbers from lo on -/
def rngD (lo : Int) (n : Nat) : List D := (List.range n).map fun (i : Nat) => D.int (lo + i)
theorem rngD_length {lo : Int} {n : Nat} : (rngD lo n).length = n := by simp [rngD]
theorem rngD_get {lo : Int} {n i : Nat} {d : D} (h : (rngD lo n)[i]? = some d) : i < n ∧ d = .int (lo + i) := by
  unfold rngD at h
  rw [List.getElem?_map] at h
  by_cases hi : i < n
  · rw [List.getElem?_range hi] at h
    cases h
    exact ⟨hi, rfl⟩
  · rw [List.getElem?_eq_none (by simpa using hi)] at h
    cases h
theorem itd_rng {w : World} {lo : Int} {n : Nat} {G H : Hp} : ItD w T (fun _ => True) (rngD lo n) (Itr lo n) G H M := by
  refine ⟨fun i G2 H2 M2 hi _ _ _ => by rw [rngD_length] at hi; exact hi, fun i G2 H2 M2 x H' d _ hs2 _ hd hy => ?_, fun _ _ _ _ _ _ => by rw [rngD_length]; exact Nat.le_refl n⟩
  obtain ⟨rfl, rfl⟩ := hy
  obtain ⟨_, rfl⟩ := rngD_get hd
  exact ⟨G2, Step.refl _ _ _, hs2, .int _⟩
theorem pdi_range1 {j : Int} (hm : X.mg "range" = none) (h : PD X T ρ M a (.int j) M1) (h1 : -(2 ^ 62) ≤ j) (h2 : j < 2 ^ 62) (hg : Gl X "range" := by rfl) (hs : starEach [a] X.env = (false, eval a X.env) :: starEach [] X.env := by rfl) : PDI X T ρ M tg (.Call (.Name "range" p) [a] [] pos) (rngD 0 j.toNat) M1 (fun _ => True) :=
  (pi_range1 hg hm (pdl_1 h hs) hs).imp fun σ H R ⟨G, hs, sl, k⟩ => ⟨G, hs, sl, fun vs G1 H1 st hs1 r => by
    obtain ⟨v, rfl, rr⟩ := r.one
    cases rr
    exact ⟨j, rfl, h1, h2, k _ G1 H1 st hs1 itd_rng⟩⟩
theorem pdi_range2 {i j : Int} (hm : X.mg "range" = none) (h : PD X T ρ M a (.int i) M1) (h' : PD X T ρ M1 b (.int j) M2) (h1 : -(2 ^ 62) ≤ i) (h2 : i < 2 ^ 62) (h3 : -(2 ^ 62) ≤ j) (h4 : j < 2 ^ 62) (hg : Gl X "range" := by rfl)
    (hs : starEach [a, b] X.env = (false, eval a X.env) :: starEach [b] X.env := by rfl) (hs2 : starEach [b] X.env = (false, eval b X.env) :: starEach [] X.env := by rfl) : PDI X T ρ M tg (.Call (.Name "range" p) [a, b] [] pos) (rngD i (j - i).toNat) M2 (fun _ => True) :=
  (pi_range2 hg hm (pdl_cons h (pdl_1 h' hs2) hs) (hs.trans (congrArg _ hs2)) hs2).imp fun σ H R ⟨G, hs, sl, k⟩ => ⟨G, hs, sl, fun vs G1 H1 st hs1 r => by
    obtain ⟨v, u, rfl, rr, r'⟩ := r.two
    cases rr
    cases r'
    exact ⟨i, j, rfl, ⟨h1, h2, h3, h4⟩, k _ G1 H1 st hs1 itd_rng⟩⟩
/-! ### for -/
theorem pb1_for {g : TG} {is : List Nat} {unp : D → Option (List D)} (hi : PDI X T ρ M tg iter ds M1 ok) (hg : PG X tg g) (ht : Tgt X.w g is unp) (W : Nat → List (Option D) → Mem → Prop) (h0 : W 0 ρ M1)
    (hok : ∀ i ρ' M', i ≤ ds.length → W i ρ' M' → ok M') (hu : ∀ (i : Nat) (d : D), ds[i]? = some d → ∃ us, unp d = some us)
    (hb : ∀ (i : Nat) (d : D) (us : List D) ρ' M', ds[i]? = some d → unp d = some us → W i ρ' M' → PB X T (setsD ρ' is us) M' body (W (i + 1)) Rt)
    (hd : ∀ ρ' M', W ds.length ρ' M' → Nx ρ' M') (hp : PassesOwn (model X.prog X.w) X.A X.env X.xe := by exact PassesOwn.never) (hc : X.calm = true := by rfl) (hs : ∀ x, foldedSetIterable iter X.env x = pure x := by intro _; rfl) : PB1 X T ρ M (.For tg iter body [] pos) Nx Rt := by
  have hbody := PSs.ex fun (x : Nat × D × List D × List (Option D) × Mem) => PSs.exB (P := ds[x.1]? = some x.2.1 ∧ unp x.2.1 = some x.2.2.1 ∧ W x.1 x.2.2.2.1 x.2.2.2.2) fun q => hb x.1 x.2.1 x.2.2.1 x.2.2.2.1 x.2.2.2.2 q.1 q.2.1 q.2.2
  refine PS.imp (ps_for hp hc hi hg hbody hs) fun D σ H ⟨G, hs, sl, k1, k2⟩ => ⟨G, hs, sl, fun J G1 H1 st1 hs1 it => ?_⟩
  refine ⟨fun i m σ' H' => m = ds.length - i ∧ i ≤ ds.length ∧ ∃ G' ρ' M', W i ρ' M' ∧ Step G1 H1 M1 G' H' M' ∧ HS X.w T G' H' M' ∧ SL X.w G' σ' ρ', ⟨_, rfl, Nat.zero_le _, G1, ρ, M1, h0, Step.refl _ _ _, hs1, sl.up st1.up⟩, ?_⟩
  rintro i m σ' H' ⟨rfl, hle, G', ρ', M', hW, st', hs', sl'⟩
  by_cases hlt : i < ds.length
  · refine .inr ⟨it.go i G' H' M' hlt st' hs' (hok i ρ' M' hle hW), fun σ2 H2 => ∃ m', m' < ds.length - i ∧ (m' = ds.length - (i + 1) ∧ i + 1 ≤ ds.length ∧ ∃ G2 ρ2 M2, W (i + 1) ρ2 M2 ∧ Step G1 H1 M1 G2 H2 M2 ∧ HS X.w T G2 H2 M2 ∧ SL X.w G2 σ2 ρ2), fun σ2 H2 q => q, fun x H2 hy => ?_⟩
    have hd' : ds[i]? = some ds[i] := List.getElem?_eq_getElem hlt
    obtain ⟨us, hus⟩ := hu i _ hd'
    obtain ⟨G2, st2, hs2, r⟩ := it.yld i G' H' M' x H2 _ st' hs' (hok i ρ' M' hle hW) hd' hy
    refine ht.ok T x σ' G2 H2 M' _ _ us hs2 r hus fun σ3 hsl _ => ⟨(i, ds[i], us, ρ', M'), ⟨hd', hus, hW⟩, G2, hs2, hsl ρ' (sl'.up st2.up), fun σ4 G4 H4 ρ4 M4 hn st4 hs4 sl4 => ?_, fun v G4 H4 d4 M4 hr st4 hs4 rd => ?_⟩
    · exact ⟨_, by omega, rfl, hlt, G4, ρ4, M4, hn, (st'.trans st2).trans st4, hs4, sl4⟩
    · exact k2 v G4 H4 d4 M4 hr (((st1.trans st').trans st2).trans st4) hs4 rd
  · have e : i = ds.length := Nat.le_antisymm hle (Nat.le_of_not_lt hlt)
    subst e
    exact .inl ⟨it.stop G' H' M' st' hs' (hok _ ρ' M' hle hW), k1 σ' G' H' ρ' M' (hd ρ' M' hW) (st1.trans st') hs' sl'⟩
theorem pb_for {g : TG} {is : List Nat} {unp : D → Option (List D)} (hi : PDI X T ρ M tg iter ds M1 ok) (hg : PG X tg g) (ht : Tgt X.w g is unp) (W : Nat → List (Option D) → Mem → Prop) (h0 : W 0 ρ M1)
    (hok : ∀ i ρ' M', i ≤ ds.length → W i ρ' M' → ok M') (hu : ∀ (i : Nat) (d : D), ds[i]? = some d → ∃ us, unp d = some us)
    (hb : ∀ (i : Nat) (d : D) (us : List D) ρ' M', ds[i]? = some d → unp d = some us → W i ρ' M' → PB X T (setsD ρ' is us) M' body (W (i + 1)) Rt)
    (hd : ∀ ρ' M', W ds.length ρ' M' → PB X T ρ' M' rest Nx Rt) (hp : PassesOwn (model X.prog X.w) X.A X.env X.xe := by exact PassesOwn.never) (hc : X.calm = true := by rfl) (hs : ∀ x, foldedSetIterable iter X.env x = pure x := by intro _; rfl) : PB X T ρ M (.For tg iter body [] pos :: rest) Nx Rt :=
  pb_seq (pb1_for hi hg ht W h0 hok hu hb (fun _ _ h => h) hp hc hs) hd
/-! ### while -/
theorem pb1_while (W : List (Option D) → Mem → Bool → Mem → Prop) (μ : List (Option D) → Mem → Nat) (k0 : ∃ b M1, W ρ M b M1) (ht : ∀ ρ' M' b M1, W ρ' M' b M1 → PDT X T ρ' M' c b M1)
    (hb : ∀ ρ' M' M1, W ρ' M' true M1 → PB X T ρ' M1 body (fun ρ2 M2 => μ ρ2 M2 < μ ρ' M' ∧ ∃ b M3, W ρ2 M2 b M3) Rt) (hd : ∀ ρ' M' M1, W ρ' M' false M1 → Nx ρ' M1) (hp : PassesOwn (model X.prog X.w) X.A X.env X.xe := by exact PassesOwn.never) : PB1 X T ρ M (.While c body [] pos) Nx Rt := by
  have htest := PT.exB (X := X) (e := c) (P := True) (t := fun σ H Q => ∃ x : List (Option D) × Mem × Bool × Mem, W x.1 x.2.1 x.2.2.1 x.2.2.2 ∧ tET X.w T x.1 x.2.1 x.2.2.1 x.2.2.2 σ H Q) fun _ => ⟨fun pins s σ H Q I ⟨x, q1, q2⟩ => (ht _ _ _ _ q1).run pins s σ H Q I q2⟩
  have hbody := PSs.ex fun (x : List (Option D) × Mem × Mem) => PSs.exB (P := W x.1 x.2.1 true x.2.2) fun q => hb x.1 x.2.1 x.2.2 q
  refine PS.imp (ps_while hp htest hbody) fun D σ H ⟨G, hs, sl, k1, k2⟩ => ?_
  obtain ⟨b0, M0, hW0⟩ := k0
  refine ⟨fun m σ' H' => ∃ G' ρ' M' b M1, m = μ ρ' M' ∧ W ρ' M' b M1 ∧ Step G H M G' H' M' ∧ HS X.w T G' H' M' ∧ SL X.w G' σ' ρ', ⟨_, G, ρ, M, b0, M0, rfl, hW0, Step.refl _ _ _, hs, sl⟩, ?_⟩
  rintro m σ' H' ⟨G', ρ', M', b, M1, rfl, hW, st', hs', sl'⟩
  refine ⟨trivial, (ρ', M', b, M1), hW, G', hs', sl', fun G2 H2 st2 hs2 => ?_⟩
  cases b with
  | false => exact k1 σ' G2 H2 ρ' M1 (hd _ _ _ hW) (st'.trans st2) hs2 (sl'.up st2.up)
  | true =>
    refine ⟨fun σ2 H2' => ∃ m', m' < μ ρ' M' ∧ ∃ G3 ρ3 M3 b3 M4, m' = μ ρ3 M3 ∧ W ρ3 M3 b3 M4 ∧ Step G H M G3 H2' M3 ∧ HS X.w T G3 H2' M3 ∧ SL X.w G3 σ2 ρ3, fun σ2 H3 q => q, (ρ', M', M1), hW, G2, hs2, sl'.up st2.up, fun σ4 G4 H4 ρ4 M4 hn st4 hs4 sl4 => ?_, fun v G4 H4 d4 M4 hr st4 hs4 rd => ?_⟩
    · obtain ⟨h1, b3, M5, h2⟩ := hn
      exact ⟨_, h1, G4, ρ4, M4, b3, M5, rfl, h2, (st'.trans st2).trans st4, hs4, sl4⟩
    · exact k2 v G4 H4 d4 M4 hr ((st'.trans st2).trans st4) hs4 rd
theorem pb_while (W : List (Option D) → Mem → Bool → Mem → Prop) (μ : List (Option D) → Mem → Nat) (k0 : ∃ b M1, W ρ M b M1) (ht : ∀ ρ' M' b M1, W ρ' M' b M1 → PDT X T ρ' M' c b M1)
    (hb : ∀ ρ' M' M1, W ρ' M' true M1 → PB X T ρ' M1 body (fun ρ2 M2 => μ ρ2 M2 < μ ρ' M' ∧ ∃ b M3, W ρ2 M2 b M3) Rt) (hd : ∀ ρ' M' M1, W ρ' M' false M1 → PB X T ρ' M1 rest Nx Rt) (hp : PassesOwn (model X.prog X.w) X.A X.env X.xe := by exact PassesOwn.never) : PB X T ρ M (.While c body [] pos :: rest) Nx Rt :=
  pb_seq (Nx1 := fun ρ' M1 => ∃ M', W ρ' M' false M1) (pb1_while W μ k0 ht hb (fun ρ' M' M1 h => ⟨M', h⟩) hp) fun ρ' M1 ⟨M', h⟩ => hd ρ' M' M1 h
end

/-! ### list comprehensions -/
/-- the block's slots forgotten -/
def wipeD (ρ : List (Option D)) : List Nat → List (Option D)
  | [] => ρ
  | v :: vs => (wipeD ρ vs).set v none
theorem SL.setN {w : World} {G : Hp} {σ : L2.St} {ρ : List (Option D)} (s : SL w G σ ρ) (i : Nat) : SL w G (σ.set i none) (ρ.set i none) := by
  refine ⟨by rw [List.length_set, List.length_set]; exact s.len, fun j e hj => ?_⟩
  by_cases h : i = j
  · subst h
    by_cases hl : i < ρ.length
    · rw [List.getElem?_set_self hl] at hj
      cases hj
    · rw [List.getElem?_eq_none (by rw [List.length_set]; omega)] at hj
      cases hj
  · rw [List.getElem?_set_ne h] at hj ⊢
    exact s.at_ j e hj
theorem SL.wipe {w : World} {G : Hp} {σ : L2.St} {ρ : List (Option D)} (s : SL w G σ ρ) : ∀ vs : List Nat, SL w G (L2.wipe σ vs) (wipeD ρ vs)
  | [] => s
  | v :: vs => by
    unfold L2.wipe wipeD
    exact (SL.wipe s vs).setN v
/-- what the turns give -/
def given (n : Nat) (kp : Nat → Bool) (el : Nat → D) : List D := ((List.range n).filter kp).map el
theorem given_yes {n : Nat} {kp : Nat → Bool} {el : Nat → D} (h : kp n = true) : given (n + 1) kp el = given n kp el ++ [el n] := by
  simp [given, List.range_succ, List.filter_append, h]
theorem given_no {n : Nat} {kp : Nat → Bool} {el : Nat → D} (h : kp n = false) : given (n + 1) kp el = given n kp el := by
  simp [given, List.range_succ, List.filter_append, h]
theorem given_len (n : Nat) (kp : Nat → Bool) (el : Nat → D) : (given n kp el).length ≤ n := by
  unfold given
  rw [List.length_map]
  exact Nat.le_trans (List.length_filter_le _ _) (by simp)
section
variable {X : Cx} {T : List Addr} {ρ : List (Option D)} {M M1 : Mem} {d : D} {elt iter tg : Expr} {ifs : List Expr} {pos p tpos : Pos} {ds : List D} {ok : Mem → Prop}
/-- what a block's turn reads: i the turn, us what goes into the target's slots -/
def tLT (w : World) (T : List Addr) (ρb : List (Option D)) (is : List Nat) (unp : D → Option (List D)) (ds : List D) (Ms Mt : Nat → Mem) (kp : Nat → Bool) : TT := fun σ H Q => ∃ x : Nat × D × List D, (ds[x.1]? = some x.2.1 ∧ unp x.2.1 = some x.2.2) ∧ tET w T (setsD ρb is x.2.2) (Ms x.1) (kp x.1) (Mt x.1) σ H Q
def tLE (w : World) (T : List Addr) (ρb : List (Option D)) (is : List Nat) (unp : D → Option (List D)) (ds : List D) (Ms Mt : Nat → Mem) (kp : Nat → Bool) (el : Nat → D) : TE := fun σ H Q => ∃ x : Nat × D × List D, (ds[x.1]? = some x.2.1 ∧ unp x.2.1 = some x.2.2 ∧ kp x.1 = true) ∧ tE w T (setsD ρb is x.2.2) (Mt x.1) (el x.1) (Ms (x.1 + 1)) σ H Q
theorem lc_in {w : World} {g : TG} {is : List Nat} {unp : D → Option (List D)} {vs : List Nat} {Ms Mt : Nat → Mem} {kp : Nat → Bool} {el : Nat → D} (ht : Tgt w g is unp) (hv : ∀ i ∈ is, i ∈ vs) (h0 : Ms 0 = M1)
    (hok : ∀ i, i ≤ ds.length → ok (Ms i)) (hu : ∀ (i : Nat) (d : D), ds[i]? = some d → ∃ us, unp d = some us) (hno : ∀ i, i < ds.length → kp i = false → Mt i = Ms (i + 1)) (hz : ds.length ≤ 16000000) (σ : L2.St) (H : Hp) (Q : VK)
    (h : tE w T ρ M (.lst (given ds.length kp el)) (Ms ds.length) σ H Q) : tLc (tI w T ρ M ds M1 ok) g (tLT w T (wipeD ρ vs) is unp ds Ms Mt kp) (tLE w T (wipeD ρ vs) is unp ds Ms Mt kp el) vs σ H Q := by
  obtain ⟨G, hs, sl, k⟩ := h
  refine ⟨G, hs, sl, fun J G1 H1 st1 hs1 it L hL => ?_⟩
  subst h0
  obtain ⟨a1, t1⟩ := hs1.own (ob := .lst []) (o := .lst []) hL (fun _ z => by cases z) fun H' e => ⟨[], e, .nil⟩
  refine ⟨fun i m H' => m = ds.length - i ∧ i ≤ ds.length ∧ ∃ G', Step G1 H1 (Ms 0) G' H' (Ms i ++ [some (L, .lst (given i kp el))]) ∧ HS w T G' H' (Ms i ++ [some (L, .lst (given i kp el))]), ⟨_, rfl, Nat.zero_le _, G1, t1, a1⟩, ?_⟩
  rintro i m H' ⟨rfl, hle, G', st', hs'⟩
  have hsl : HS w T G' H' (Ms i) := hs'.left
  have st0 : Step G1 H1 (Ms 0) G' H' (Ms i) := ⟨st'.up, st'.new, st'.keep, fun a h => st'.adr_ a (by rw [adr_app]; exact List.mem_append_left _ h)⟩
  by_cases hlt : i < ds.length
  · refine .inr ⟨it.go i G' H' _ hlt st0 hsl (hok i hle), fun H2 => ∃ m', m' < ds.length - i ∧ (m' = ds.length - (i + 1) ∧ i + 1 ≤ ds.length ∧ ∃ G2, Step G1 H1 (Ms 0) G2 H2 (Ms (i + 1) ++ [some (L, .lst (given (i + 1) kp el))]) ∧ HS w T G2 H2 (Ms (i + 1) ++ [some (L, .lst (given (i + 1) kp el))])), fun H2 q => q, fun x H2 hy => ?_⟩
    have hd' : ds[i]? = some ds[i] := List.getElem?_eq_getElem hlt
    obtain ⟨us, hus⟩ := hu i _ hd'
    obtain ⟨G2, st2, hs2, r⟩ := it.yld i G' H' (Ms i) x H2 _ st0 hsl (hok i hle) hd' hy
    obtain ⟨st2', hs2'⟩ := frame_ok hs' st2 hs2
    refine ht.ok T x (L2.wipe σ vs) G2 H2 (Ms i) _ _ us hs2 r hus fun σ3 hsl3 hw => ⟨?_, (i, ds[i], us), ⟨hd', hus⟩, G2, hs2, hsl3 _ (((sl.up st1.up).up (st'.up)).up st2.up |>.wipe vs), fun G4 H4 st4 hs4 => ?_⟩
    · rw [hw vs hv]
      exact wipe_wipe fun _ h => h
    · obtain ⟨st4', hs4'⟩ := frame_ok hs2' st4 hs4
      have sl4 : SL w G4 σ3 (setsD (wipeD ρ vs) is us) := (hsl3 _ (((sl.up st1.up).up (st'.up)).up st2.up |>.wipe vs)).up st4.up
      cases hk : kp i with
      | false =>
        rw [if_neg Bool.false_ne_true]
        refine ⟨_, by omega, rfl, hlt, G4, ?_, ?_⟩
        · rw [given_no hk, ← hno i hlt hk]
          exact ((st'.trans st2').trans st4')
        · rw [given_no hk, ← hno i hlt hk]
          exact hs4'
      | true =>
        rw [if_pos rfl]
        refine ⟨(i, ds[i], us), ⟨hd', hus, hk⟩, G4, hs4, sl4, fun y G5 H5 st5 hs5 ry => ?_⟩
        obtain ⟨st5', hs5'⟩ := frame_ok hs4' st5 hs5
        obtain ⟨g0, acc, hacc, racc⟩ := hs5'.mem L (.lst (given i kp el)) (List.mem_append_right _ List.mem_cons_self)
        have hj : (Ms (i + 1) ++ [some (L, .lst (given i kp el))])[(Ms (i + 1)).length]? = some (some (L, .lst (given i kp el))) := by
          rw [List.getElem?_append_right (Nat.le_refl _), Nat.sub_self]
          rfl
        have hset : (Ms (i + 1) ++ [some (L, Ob.lst (given i kp el))]).set (Ms (i + 1)).length (some (L, .lst (given i kp el ++ [el i]))) = Ms (i + 1) ++ [some (L, .lst (given i kp el ++ [el i]))] := by
          rw [List.set_append_right _ _ (Nat.le_refl _), Nat.sub_self]
          rfl
        obtain ⟨a6, t6⟩ := hs5'.put (ob' := .lst (given i kp el ++ [el i])) (o := .lst (acc ++ [y])) hj (fun _ z => by cases z) fun H' e => ⟨_, e, racc.app (.cons ry .nil)⟩
        rw [hset] at a6 t6
        have hl : acc.length = (given i kp el).length := racc.length
        refine ⟨acc, hacc, ?_, _, by omega, rfl, hlt, G5, ?_, ?_⟩
        · have := given_len i kp el
          show acc.length < 16777216
          omega
        · rw [given_yes hk]
          exact ((((st'.trans st2').trans st4').trans st5').trans t6)
        · rw [given_yes hk]
          exact a6
  · have e : i = ds.length := Nat.le_antisymm hle (Nat.le_of_not_lt hlt)
    subst e
    refine .inl ⟨it.stop G' H' _ st0 hsl (hok _ hle), ?_⟩
    obtain ⟨g0, acc, hacc, racc⟩ := hs'.mem L (.lst (given ds.length kp el)) (List.mem_append_right _ List.mem_cons_self)
    have hj : (Ms ds.length ++ [some (L, .lst (given ds.length kp el))])[(Ms ds.length).length]? = some (some (L, .lst (given ds.length kp el))) := by
      rw [List.getElem?_append_right (Nat.le_refl _), Nat.sub_self]
      rfl
    obtain ⟨a6, t6⟩ := hs'.freeze hj hacc fun _ z => by cases z
    have hset : (Ms ds.length ++ [some (L, Ob.lst (given ds.length kp el))]).set (Ms ds.length).length none = Ms ds.length ++ [none] := by
      rw [List.set_append_right _ _ (Nat.le_refl _), Nat.sub_self]
      rfl
    rw [hset] at a6 t6
    have t7 := (st1.trans st').trans t6
    refine k (.ref L) _ H' ⟨t7.up, t7.new, t7.keep, fun a h => t7.adr_ a (by rw [adr_app]; exact List.mem_append_left _ h)⟩ a6.left ?_
    exact .lst upd_same (racc.up (up_upd g0))
/-- the turns' parts, from what they are for each turn -/
theorem lt_in {X' : Cx} {ρb : List (Option D)} {is : List Nat} {unp : D → Option (List D)} {Ms Mt : Nat → Mem} {kp : Nat → Bool}
    (h : ∀ (i : Nat) (d : D) (us : List D), ds[i]? = some d → unp d = some us → PDTs X' T (setsD ρb is us) (Ms i) ifs (kp i) (Mt i)) : PTs X' ifs (tLT X'.w T ρb is unp ds Ms Mt kp) :=
  PTs.ex fun x => PTs.exB fun q => h _ _ _ q.1 q.2
theorem le_in {X' : Cx} {ρb : List (Option D)} {is : List Nat} {unp : D → Option (List D)} {Ms Mt : Nat → Mem} {kp : Nat → Bool} {el : Nat → D}
    (h : ∀ (i : Nat) (d : D) (us : List D), ds[i]? = some d → unp d = some us → kp i = true → PD X' T (setsD ρb is us) (Mt i) elt (el i) (Ms (i + 1))) : PE X' elt (tLE X'.w T ρb is unp ds Ms Mt kp el) :=
  PE.ex fun x => PE.exB fun q => h _ _ _ q.1 q.2.1 q.2.2
theorem pdts_nil {X : Cx} {ρ : List (Option D)} {M : Mem} : PDTs X T ρ M [] true M := pts_nil.imp fun σ H Q ⟨G, hs, sl, k⟩ => k G H (Step.refl _ _ _) hs
theorem pdts_one {X : Cx} {ρ : List (Option D)} {M M1 : Mem} {c : Expr} {b : Bool} (h : PDT X T ρ M c b M1) : PDTs X T ρ M [c] b M1 := pts_one h
/-- the blocks of a comprehension -/
abbrev Blks (X : Cx) (scope : Scope) (P : Cx → Prop) : Prop := ∀ (s : Shared) (H : Hp) (C : Addr) (cl : List (Str × Addr)) (fp : List Addr), P (X.blk s H scope (compEnvC scope cl C X.env) fp)
variable {scope : Scope} {g : TG} {is : List Nat} {unp : D → Option (List D)} {own : List (Str × Nat)}
/-- [elt for tg in iter if ..], by turns -/
theorem pd_lcI {Ms Mt : Nat → Mem} {kp : Nat → Bool} {el : Nat → D} (hi : PDI X T ρ M tg iter ds M1 ok) (hN : X.N.Nodup) (bk : BlkOk X.N X.env.scope scope own) (hg : Blks X scope fun X' => PG X' tg g) (ht : Tgt X.w g is unp) (hv : ∀ i ∈ is, i ∈ own.map (·.2))
    (h0 : Ms 0 = M1) (hok : ∀ i, i ≤ ds.length → ok (Ms i)) (hu : ∀ (i : Nat) (d : D), ds[i]? = some d → ∃ us, unp d = some us) (hno : ∀ i, i < ds.length → kp i = false → Mt i = Ms (i + 1)) (hz : ds.length ≤ 16000000)
    (htt : ∀ (i : Nat) (d : D) (us : List D), ds[i]? = some d → unp d = some us → Blks X scope fun X' => PDTs X' T (setsD (wipeD ρ (own.map (·.2))) is us) (Ms i) ifs (kp i) (Mt i))
    (hee : ∀ (i : Nat) (d : D) (us : List D), ds[i]? = some d → unp d = some us → kp i = true → Blks X scope fun X' => PD X' T (setsD (wipeD ρ (own.map (·.2))) is us) (Mt i) elt (el i) (Ms (i + 1)))
    (hc : X.calm = true := by rfl) (hs : ∀ x, foldedSetIterable iter X.env x = pure x := by intro _; rfl) : PD X T ρ M (.ListComp elt [⟨tg, iter, ifs, 0⟩] scope pos) (.lst (given ds.length kp el)) (Ms ds.length) :=
  (pe_lc hc hN hi bk hg (fun s H C cl fp => lt_in fun i d us h1 h2 => htt i d us h1 h2 s H C cl fp) (fun s H C cl fp => le_in fun i d us h1 h2 h3 => hee i d us h1 h2 h3 s H C cl fp) hs).imp fun σ H Q h => lc_in ht hv h0 hok hu hno hz σ H Q h
/-- y = [..], y a plain local -/
theorem pb_setLcI {Ms Mt : Nat → Mem} {kp : Nat → Bool} {el : Nat → D} {rest : List Stmt} {Nx : List (Option D) → Mem → Prop} {Rt : D → Mem → Prop} (i : Nat) {y : Str} {py spos : Pos} (hi : PDI X T ρ M tg iter ds M1 ok) (hN : X.N.Nodup) (bk : BlkOk X.N X.env.scope scope own) (hg : Blks X scope fun X' => PG X' tg g) (ht : Tgt X.w g is unp) (hv : ∀ i ∈ is, i ∈ own.map (·.2))
    (h0 : Ms 0 = M1) (hok : ∀ i, i ≤ ds.length → ok (Ms i)) (hu : ∀ (i : Nat) (d : D), ds[i]? = some d → ∃ us, unp d = some us) (hno : ∀ i, i < ds.length → kp i = false → Mt i = Ms (i + 1)) (hz : ds.length ≤ 16000000)
    (htt : ∀ (i : Nat) (d : D) (us : List D), ds[i]? = some d → unp d = some us → Blks X scope fun X' => PDTs X' T (setsD (wipeD ρ (own.map (·.2))) is us) (Ms i) ifs (kp i) (Mt i))
    (hee : ∀ (i : Nat) (d : D) (us : List D), ds[i]? = some d → unp d = some us → kp i = true → Blks X scope fun X' => PD X' T (setsD (wipeD ρ (own.map (·.2))) is us) (Mt i) elt (el i) (Ms (i + 1)))
    (k : PB X T (ρ.set i (some (.lst (given ds.length kp el)))) (Ms ds.length) rest Nx Rt)
    (hy : X.N[i]? = some y := by rfl) (hyl : X.env.scope.names.lookup y = some .local := by rfl) (hsw : swapsWith (.ListComp elt [⟨tg, iter, ifs, 0⟩] scope pos) (some (.Name y py)) spos.line X.env = pure true := by exact sw_true rfl rfl rfl (by decide +kernel))
    (hc : X.calm = true := by rfl) (hs : ∀ x, foldedSetIterable iter X.env x = pure x := by intro _; rfl) : PB X T ρ M (.Assign [.Name y py] (.ListComp elt [⟨tg, iter, ifs, 0⟩] scope pos) spos :: rest) Nx Rt :=
  pb_seq (Nx1 := fun ρ' M' => ρ' = ρ.set i (some (.lst (given ds.length kp el))) ∧ M' = Ms ds.length) (PS.imp (ps_setLc hc hN hy hyl hsw hi bk hg (fun s H C cl fp => lt_in fun i d us h1 h2 => htt i d us h1 h2 s H C cl fp) (fun s H C cl fp => le_in fun i d us h1 h2 h3 => hee i d us h1 h2 h3 s H C cl fp) hs) fun D σ H ⟨G, hs, sl, k1, k2⟩ => by
    refine lc_in (el := el) ht hv h0 hok hu hno hz σ H _ ⟨G, hs, sl, fun v G' H' st hs' r => ?_⟩
    exact k1 _ G' H' _ _ ⟨rfl, rfl⟩ st hs' ((sl.up st.up).set i r)) fun ρ' M' ⟨e1, e2⟩ => by subst e1; subst e2; exact k
end
end LW

set_option Elab.async false
set_option linter.all false
set_option maxRecDepth 100000
set_option maxHeartbeats 2000000
/-! LF: zip and enumerate over lists, tuples, texts in any mix. -/
namespace LW
open PySem PySem.Spec PyProof.Rows L2

theorem meets_enum1 {v : Value} {o : Obj} {H : Heap → Prop} (B : Begins v o H) :
    Meets (Builtin.«enumerate.__new__» ⟨[.type "enumerate", v], []⟩) (fun _ R s => H s.heap ∧
      R (.ok (.ret (.ref (s.heap.push o).objs.size))) { s with heap := (s.heap.push o).push { cls := .type "enumerate", data := .fields #[.none, .bool false, .ref s.heap.objs.size, rawInt 0, .none, .none] } }) :=
  .of_wp fun prog w A R s h => by
    obtain ⟨hp, g, d, tk, os⟩ := s; obtain ⟨h1, h⟩ := h
    have hsub := sub_enumerate
    have q1 : ∀ {A' : Around} {E : Value → Shared → Prop} {Q : Value → Shared → Prop}, Q (.ref hp.objs.size) ⟨hp.push o, g, d, tk, os⟩ → wpAny (model prog w) A' (pyIter v) Q E ⟨hp, g, d, tk, os⟩ :=
      fun q => B.iter prog w _ _ ⟨hp, g, d, tk, os⟩ _ h1 q
    wp_walk using q1
    refine wpAny_stack_any fun st => wpAny_pure ?_
    split
    · rename_i c _ _ _ _ _
      cases (c == Value.type "enumerate")
      · wp_walk using q1
        exact ⟨_, rfl, h⟩
      · wp_walk using q1
        exact ⟨_, rfl, h⟩
    · wp_walk using q1
      exact ⟨_, rfl, h⟩
theorem enum1_begins {prog : Program} {w : World} {A : Around} {E : Value → Shared → Prop} {s : Shared} {v : Value} {o : Obj} {H : Heap → Prop} {Q : Value → Shared → Prop} (B : Begins v o H) (h1 : H s.heap)
    (h : ∀ h', IsEnum h' (s.heap.objs.size + 1) s.heap.objs.size 0 .none → h'.get? s.heap.objs.size = some o → h'.objs.size = s.heap.objs.size + 2 →
      (∀ b o, s.heap.get? b = some o → h'.get? b = some o) → Q (.ref (s.heap.objs.size + 1)) { s with heap := h' }) :
    wpAny (model prog w) A (call (.type "enumerate") [v]) Q E s := by
  refine callType_new F.called_enumerate (by decide) (F.typeCall_enumerate_1 _) (F.newCall_enumerate_1 _) (fun obj => F.args_object_init_2 obj _) F.entry_enumerate_new
    (meets_enum1 B) ⟨h1, ?_⟩
  have hz : (s.heap.push o).objs.size = s.heap.objs.size + 1 := Heap.size_push ..
  show _ ∧ _
  rw [hz]
  have he : IsEnum ((s.heap.push o).push { cls := .type "enumerate", data := .fields #[.none, .bool false, .ref s.heap.objs.size, rawInt 0, .none, .none] }) (s.heap.objs.size + 1) s.heap.objs.size 0 .none := by
    have := Heap.get?_push_size (s.heap.push o) (o := { cls := .type "enumerate", data := .fields #[.none, .bool false, .ref s.heap.objs.size, rawInt 0, .none, .none] }) rfl
    rw [hz] at this; exact this
  refine ⟨⟨_, he, rfl⟩, h _ he (Heap.get?_push_of_some _ (Heap.get?_push_size _ B.free)) (by rw [Heap.size_push, hz]) fun b o x => Heap.get?_push_of_some _ (Heap.get?_push_of_some _ x)⟩

/-- what is walked by an iterator of its own -/
inductive Src where
  | lst (a : Addr) | tup (a : Addr) | str (x : Str) (t : Tok)
def Src.val : Src → Value
  | .lst a => .ref a
  | .tup a => .ref a
  | .str x t => .str x t
def Src.io : Src → Obj
  | .lst a => { cls := .type "list_iterator", data := .fields #[.ref a, .int 0 0] }
  | .tup a => { cls := .type "tuple_iterator", data := .fields #[.ref a, .int 0 0] }
  | .str x t => { cls := .type (strIterType x), data := .fields #[.str x t, .int 0 0] }
def Src.it : Src → Heap → Addr → Nat → Prop
  | .lst a, h, it, i => h.IsListIter it a i
  | .tup a, h, it, i => h.IsTupleIter it a i
  | .str x t, h, it, i => h.IsStrIter it (strIterType x) x t i
def Src.fp : Src → List Addr
  | .lst a => [a]
  | .tup a => [a]
  | .str _ _ => []
def signs (x : Str) : List V := x.cps.toList.map fun c => .str ⟨#[c]⟩
def Src.items (K : PySem.W.Frag) : Src → Hp → List V → Prop
  | .lst a, H, xs => SqL K H a xs
  | .tup a, H, xs => SqT K H a xs
  | .str x _, _, xs => xs = signs x
theorem Src.it_at {S : Src} {h h' : Heap} {it : Addr} {i : Nat} (x : S.it h it i) (k : ∀ o, h.get? it = some o → h'.get? it = some o) : S.it h' it i := by
  cases S with
  | lst a => exact Heap.IsListIter.at x k
  | tup a => exact Heap.IsTupleIter.at x k
  | str y t => obtain ⟨o, e, r⟩ := x; exact ⟨o, k o e, r⟩
theorem Src.it_obj {S : Src} {h : Heap} {it : Addr} {i : Nat} (x : S.it h it i) : ∃ o, h.get? it = some o ∧ ∀ v, o.data ≠ .cell v := by
  cases S with
  | lst a => obtain ⟨o, e, _, d⟩ := x; exact ⟨o, e, fun v q => by rw [d] at q; cases q⟩
  | tup a => obtain ⟨o, e, _, d⟩ := x; exact ⟨o, e, fun v q => by rw [d] at q; cases q⟩
  | str y t => obtain ⟨o, e, _, d⟩ := x; exact ⟨o, e, fun v q => by rw [d] at q; cases q⟩
theorem Src.it_zero {S : Src} {h : Heap} {it : Addr} (e : h.get? it = some S.io) : S.it h it 0 := by
  cases S with
  | lst a => exact ⟨_, e, rfl, rfl⟩
  | tup a => exact ⟨_, e, rfl, rfl⟩
  | str y t => exact ⟨_, e, rfl, rfl⟩
/-- what of it stands in the heap -/
def Src.still (S : Src) (us : List Value) (h : Heap) : Prop := match S with
  | .lst a => h.IsList a us.toArray
  | .tup a => h.IsTuple a us.toArray
  | .str x _ => True
theorem Src.still_at {S : Src} {us : List Value} {h h' : Heap} (x : S.still us h) (k : ∀ b ∈ S.fp, ∀ o, h.get? b = some o → h'.get? b = some o) : S.still us h' := by
  cases S with
  | lst a => exact Heap.IsList.at x fun o e => k a (List.mem_singleton.mpr rfl) o e
  | tup a => exact Heap.IsTuple.at x fun o e => k a (List.mem_singleton.mpr rfl) o e
  | str y t => trivial
theorem Src.fp_lt {S : Src} {us : List Value} {h : Heap} (x : S.still us h) : ∀ b ∈ S.fp, b < h.objs.size := fun b hb => by
  cases S with
  | lst a =>
    rw [List.mem_singleton.mp hb]
    exact Heap.lt_size (show h.get? a = some _ from x.choose_spec.1)
  | tup a =>
    rw [List.mem_singleton.mp hb]
    exact Heap.lt_size (show h.get? a = some _ from x.choose_spec.1)
  | str y t => cases hb
theorem Src.begins (S : Src) (us : List Value) : Begins S.val S.io (S.still us) := by
  cases S with
  | lst a => exact begins_list a us.toArray
  | tup a => exact begins_tuple a us.toArray
  | str x t => exact begins_text x t
section
variable {X : Cx} {pins : List (Addr × Obj)} {σ : L2.St} {H : Hp} {s : Shared}
theorem Src.vals {S : Src} {xs : List V} (I : Inv X pins σ H s) (h : S.items X.K H xs) : ∃ us, S.still us s.heap ∧ ((∀ x t, S ≠ .str x t) → Vals xs us) := by
  cases S with
  | lst a => obtain ⟨us, r, p, _⟩ := I.list h; exact ⟨us, p.isList, fun _ => r⟩
  | tup a => obtain ⟨us, r, p, _⟩ := I.tuple h; exact ⟨us, p, fun _ => r⟩
  | str x t => exact ⟨[], trivial, fun q => absurd rfl (q x t)⟩
theorem signs_get {x : Str} {i : Nat} {c : Nat} (h : x.cps[i]? = some c) : (signs x)[i]? = some (.str ⟨#[c]⟩) := by
  unfold signs
  rw [List.getElem?_map, Array.getElem?_toList, h]
  rfl
theorem signs_len (x : Str) : (signs x).length = x.cps.size := by simp [signs]
theorem Src.draws {A : Around} {S : Src} {xs : List V} {it : Addr} (I : Inv X pins σ H s) (h : S.items X.K H xs) (hh : A.handled = none) (hne : it ∉ S.fp) :
    ∃ us, S.still us s.heap ∧ Draws X.prog X.w A it (it :: S.fp) xs.length (fun i v => ∃ x, xs[i]? = some x ∧ RelV x v) (fun i h => S.it h it i ∧ S.still us h) := by
  cases S with
  | lst a =>
    obtain ⟨us, r, p, _⟩ := I.list h
    refine ⟨us, p.isList, ?_⟩
    have D := Draws.list (prog := X.prog) (w := X.w) hh it a (fun e => hne (by rw [e]; exact List.mem_singleton.mpr rfl)) us.toArray
    have el : us.toArray.size = xs.length := by rw [List.size_toArray, r.length]
    rw [el] at D
    refine ⟨D.live, D.frame, fun i s Q E hi st hQ => D.item i s Q E hi st fun x h' tk hp => hQ x h' tk ?_, D.done⟩
    have hl : i < xs.length := hi
    obtain ⟨u, hu, ru⟩ := r.get (List.getElem?_eq_getElem hl)
    have e1 : us.toArray[i]? = some x := hp
    rw [List.getElem?_toArray, hu] at e1
    cases e1
    exact ⟨_, List.getElem?_eq_getElem hl, ru⟩
  | tup a =>
    obtain ⟨us, r, p, _⟩ := I.tuple h
    refine ⟨us, p, ?_⟩
    have D := Draws.tuple (prog := X.prog) (w := X.w) hh it a (fun e => hne (by rw [e]; exact List.mem_singleton.mpr rfl)) us.toArray
    have el : us.toArray.size = xs.length := by rw [List.size_toArray, r.length]
    rw [el] at D
    refine ⟨D.live, D.frame, fun i s Q E hi st hQ => D.item i s Q E hi st fun x h' tk hp => hQ x h' tk ?_, D.done⟩
    have hl : i < xs.length := hi
    obtain ⟨u, hu, ru⟩ := r.get (List.getElem?_eq_getElem hl)
    have e1 : us.toArray[i]? = some x := hp
    rw [List.getElem?_toArray, hu] at e1
    cases e1
    exact ⟨_, List.getElem?_eq_getElem hl, ru⟩
  | str x t =>
    have e : xs = signs x := h
    subst e
    refine ⟨[], trivial, ?_⟩
    have D := Draws.text (prog := X.prog) (w := X.w) hh it x t
    rw [signs_len]
    refine ⟨fun i h st => D.live i h st.1, fun i h h' st k => ⟨D.frame i h h' st.1 fun b hb => k b hb, trivial⟩, fun i s Q E hi st hQ => D.item i s Q E hi st.1 fun v h' tk hp st' => hQ v h' tk ?_ ⟨st', trivial⟩, fun s Q E st => D.done s Q E st.1⟩
    obtain ⟨c, u, h1, rfl⟩ := hp
    exact ⟨_, signs_get h1, u, rfl⟩
theorem Src.items_inj {S : Src} {xs ys : List V} (I : Inv X pins σ H s) (h : S.items X.K H xs) (h' : S.items X.K H ys) : xs = ys := by
  cases S with
  | lst a => exact I.list_inj h h'
  | tup a => exact I.tuple_inj h h'
  | str x t => rw [show xs = signs x from h, show ys = signs x from h']
end
/-! ### zip -/
def ItzM (K : PySem.W.Frag) (S1 S2 : Src) : It :=
  ⟨fun i H => ∃ (xs ys : List V) (x y : V), S1.items K H xs ∧ S2.items K H ys ∧ xs[i]? = some x ∧ ys[i]? = some y,
    fun i H v H' => ∃ T x y, v = .ref T ∧ H T = none ∧ H' = upd H T (.tup [x, y]) ∧ (∀ xs, S1.items K H xs → xs[i]? = some x) ∧ ∀ ys, S2.items K H ys → ys[i]? = some y,
    fun i H => ∃ xs ys : List V, S1.items K H xs ∧ S2.items K H ys ∧ i ≤ xs.length ∧ i ≤ ys.length ∧ (i = xs.length ∨ i = ys.length)⟩
theorem turn_zipM {P : Program} {w : World} {K : PySem.W.Frag} {elts : List Expr} {kk : Nat} {tpos : Pos} {S1 S2 : Src} {z TI TO i1 i2 : Addr} (D : ZipSep2 z TI TO i1 i2 (i1 :: S1.fp) (i2 :: S2.fp)) (n1 : i1 ∉ S1.fp) (n2 : i2 ∉ S2.fp) :
    Turn P w K (.Tuple elts kk tpos) (ItzM K S1 S2) [z, TI, TO, i1, i2] z (fun i h => IsZip h z TI TO .none ∧ IsTupOf2 h TI (.ref i1) (.ref i2) ∧ (∃ x y, IsTupOf2 h TO x y) ∧ S1.it h i1 i ∧ S2.it h i2 i) where
  mem := by simp
  obj := fun i h st c hc => by
    obtain ⟨hz, hTI, ⟨x, y, hTO⟩, h1, h2⟩ := st
    have e' : c = z ∨ c = TI ∨ c = TO ∨ c = i1 ∨ c = i2 := by simpa using hc
    rcases e' with q | q | q | q | q
    · rw [q]; exact ⟨_, hz, fun v q => nomatch q⟩
    · rw [q]; exact ⟨_, hTI, fun v q => nomatch q⟩
    · rw [q]; exact ⟨_, hTO, fun v q => nomatch q⟩
    · rw [q]; exact Src.it_obj h1
    · rw [q]; exact Src.it_obj h2
  keep := fun i h h' st k => by
    obtain ⟨hz, hTI, ⟨x, y, hTO⟩, h1, h2⟩ := st
    exact ⟨k z (by simp) _ hz, k TI (by simp) _ hTI, ⟨x, y, k TO (by simp) _ hTO⟩, Src.it_at h1 fun o q => k i1 (by simp) o q, Src.it_at h2 fun o q => k i2 (by simp) o q⟩
  item := by
    intro X hP hw hK hc i pins s σ H E I hf st hg
    subst hP hw hK
    obtain ⟨hz, hTI, ⟨x0, y0, hTO⟩, h1, h2⟩ := st
    obtain ⟨xs, ys, x, y, hqx, hqy, hx, hy⟩ := hg
    have hh : X.A.in1.handled = none := I.ok.hd hc
    obtain ⟨us1, s1, D1⟩ := Src.draws (A := X.A.in1) I hqx hh n1
    obtain ⟨us2, s2, D2⟩ := Src.draws (A := X.A.in1) I hqy hh n2
    have l1 : i < xs.length := (List.getElem?_eq_some_iff.mp hx).1
    have l2 : i < ys.length := (List.getElem?_eq_some_iff.mp hy).1
    have hzl : z < s.heap.objs.size := Heap.lt_size hz
    refine wpAny_pyNext_zipD2_item D D1 D2 hz hTI hTO ⟨h1, s1⟩ ⟨h2, s2⟩ l1 l2 fun u u2 h' tk p1 p2 z' TO' st1' st2' hT hsz hk => ?_
    obtain ⟨x', ex, ru⟩ := p1
    obtain ⟨y', ey, ru2⟩ := p2
    rw [hx] at ex
    rw [hy] at ey
    cases ex
    cases ey
    refine ⟨_, rfl, wpAny_letOwnedTupleGo_zip (s := { s with heap := h', toks := tk }) z' fun h'' z'' sb => ?_⟩
    have hT2 : h''.get? s.heap.objs.size = some { cls := .type "tuple", data := .seq #[u, u2] } := (sb.2 _ (Nat.ne_of_gt hzl)).trans hT
    have new : ObjOk X.prog X.w (upd H s.heap.objs.size (.tup [x, y])) h'' s.heap.objs.size (.tup [x, y]) :=
      ⟨by show 2 ≤ sizeLine; decide, [u, u2], .cons ru (.cons ru2 .nil), ⟨_, hT2, rfl, _, rfl⟩⟩
    have I1 : Inv X pins σ (upd H s.heap.objs.size (.tup [x, y])) { s with heap := h'', toks := tk } :=
      I.turnedNew (t' := tk) (ch := [z, TI, TO, i1, i2]) (fun c o hb q => (sb.2 c (fun q' => hb (by simp [q']))).trans (hk c o (fun q' => hb (by simp [q'])) (fun q' => hb (by simp [q'])) (fun q' => hb (by simp [q'])) (fun q' => hb (by simp [q'])) q)) hf (Nat.le_refl _) new
    refine ⟨.ref s.heap.objs.size, _, I1, rfl, ⟨_, x, y, rfl, I.hok.fresh (Nat.le_refl _), rfl, fun l hl => by rw [Src.items_inj I hl hqx]; exact hx, fun l hl => by rw [Src.items_inj I hl hqy]; exact hy⟩, ⟨z'', ?_, ⟨u, u2, ?_⟩, ?_, ?_⟩, fun c hcm => ?_⟩
    · exact (sb.2 _ D.TIz).trans (hk _ _ D.TIz D.TITO D.TIi1 D.TIi2 hTI)
    · exact (sb.2 _ D.TOz).trans TO'
    · exact Src.it_at st1'.1 fun o q => (sb.2 _ D.zi1.symm).trans q
    · exact Src.it_at st2'.1 fun o q => (sb.2 _ D.zi2.symm).trans q
    · have hlt : c < s.heap.objs.size := by
        have e' : c = z ∨ c = TI ∨ c = TO ∨ c = i1 ∨ c = i2 := by simpa using hcm
        rcases e' with q | q | q | q | q
        · rw [q]; exact hzl
        · rw [q]; exact Heap.lt_size hTI
        · rw [q]; exact Heap.lt_size hTO
        · rw [q]; obtain ⟨_, e1, _⟩ := Src.it_obj h1; exact Heap.lt_size e1
        · rw [q]; obtain ⟨_, e2, _⟩ := Src.it_obj h2; exact Heap.lt_size e2
      rw [upd_ne (Nat.ne_of_lt hlt)]
      exact (hf c hcm).1
  done := by
    intro X hP hw hK hc i pins s σ H E I hf st hg
    subst hP hw hK
    obtain ⟨hz, hTI, ⟨x0, y0, hTO⟩, h1, h2⟩ := st
    obtain ⟨xs, ys, hqx, hqy, le1, le2, hend⟩ := hg
    have hh : X.A.in1.handled = none := I.ok.hd hc
    obtain ⟨us1, s1, D1⟩ := Src.draws (A := X.A.in1) I hqx hh n1
    obtain ⟨us2, s2, D2⟩ := Src.draws (A := X.A.in1) I hqy hh n2
    exact wpAny_pyNext_zipD2_end D D1 D2 hz hTI hTO ⟨h1, s1⟩ ⟨h2, s2⟩ le1 le2 hend fun h' tk hk => ⟨rfl, I.turnedL (t' := tk) (ch := [z, TI, TO, i1, i2]) (fun c o hb q =>
      hk c o (fun q' => hb (by simp [q'])) (fun q' => hb (by simp [q'])) (fun q' => hb (by simp [q'])) (fun q' => hb (by simp [q'])) q) hf⟩
  self := fun A i s Q E st h => wpAny_pyIter_zip st.1 h
/-- which source a value is -/
def SrcOf (K : PySem.W.Frag) (H : Hp) (x : V) (u : Value) (S : Src) (xs : List V) : Prop := RelV x u ∧ u = S.val ∧ S.items K H xs
def iZipM (K : PySem.W.Frag) (ta : TA) : TI := fun σ H R => ta σ H fun vs H1 => ∃ x y, vs = [x, y] ∧ ∀ u v : Value, RelV x u → RelV y v → ∃ S1 S2 xs ys, u = Src.val S1 ∧ v = Src.val S2 ∧ S1.items K H1 xs ∧ S2.items K H1 ys ∧ R (ItzM K S1 S2) H1
theorem pi_zipM {X : Cx} {e e2 : Expr} {ta : TA} {p pos tpos : Pos} {elts : List Expr} {kk : Nat} (hg : Gl X "zip") (hm : X.mg "zip" = none) (ha : PA X [e, e2] ta)
    (hs : starEach [e, e2] X.env = (false, eval e X.env) :: starEach [e2] X.env := by rfl) (hpl : (backTo pos (starEach [e2] X.env)).any (·.1) = false := by rfl) :
    PI X (.Tuple elts kk tpos) (.Call (.Name "zip" p) [e, e2] [] pos) (iZipM X.K ta) := by
  refine ⟨fun pins s σ H R I h => ?_⟩
  refine wpAny_Call_Name_kw (ld_blt I hg hm PyProof.Rows.boot_zip ?_)
  refine PyProof.Rows.callWith_type1 (thn (ha.run pos pins s σ H _ I h) fun us s1 ⟨vs, H1, I1, r1, q1⟩ => ?_) hs hpl
  obtain ⟨x, y, ex, q⟩ := q1
  subst ex
  cases r1 with
  | cons r rr =>
    cases rr with
    | cons r' rr =>
      cases rr
      obtain ⟨S1, S2, xs, ys, rfl, rfl, i1, i2, q⟩ := q _ _ r r'
      obtain ⟨us1, t1, _⟩ := Src.vals I1 i1
      obtain ⟨us2, t2, _⟩ := Src.vals I1 i2
      refine zip_begins2 (Src.begins S1 us1) (Src.begins S2 us2) t1 t2 fun h' hz hTI hTO h1 h2 hsz hk => wpAny_pyIter_zip hz ?_
      have I2 : Inv X pins σ H1 { s1 with heap := h' } := I1.kept (t' := s1.toks) hk
      have lt1 := Src.fp_lt t1
      have lt2 := Src.fp_lt t2
      refine ⟨s1.heap.objs.size + 4, [s1.heap.objs.size + 4, s1.heap.objs.size + 2, s1.heap.objs.size + 3, s1.heap.objs.size, s1.heap.objs.size + 1], _, _, H1, rfl, I2, turn_zipM (zip_sep2 lt1 lt2) (fun q => Nat.lt_irrefl _ (lt1 _ q)) (fun q => by
        have z := lt2 _ q
        exact absurd z (Nat.not_lt_of_le (Nat.le_succ _))), ⟨hz, hTI, ⟨_, _, hTO⟩, Src.it_zero h1, Src.it_zero h2⟩, fun c hcm => ?_, q⟩
      have e' : c = s1.heap.objs.size + 4 ∨ c = s1.heap.objs.size + 2 ∨ c = s1.heap.objs.size + 3 ∨ c = s1.heap.objs.size ∨ c = s1.heap.objs.size + 1 := by simpa using hcm
      have hle : s1.heap.objs.size ≤ c := by
        rcases e' with z | z | z | z | z
        · rw [z]; exact Nat.le_add_right _ _
        · rw [z]; exact Nat.le_add_right _ _
        · rw [z]; exact Nat.le_add_right _ _
        · rw [z]; exact Nat.le_refl _
        · rw [z]; exact Nat.le_add_right _ _
      exact I1.fpOk hle (I1.hok.fresh hle)
/-! ### enumerate -/
def IteM (K : PySem.W.Frag) (S : Src) : It :=
  ⟨fun i H => ∃ (xs : List V) (x : V), S.items K H xs ∧ xs[i]? = some x, fun i H v H' => ∃ T x, v = .ref T ∧ H T = none ∧ H' = upd H T (.tup [.int (i : Nat), x]) ∧ ∀ xs, S.items K H xs → xs[i]? = some x, fun i H => ∃ xs : List V, S.items K H xs ∧ i = xs.length⟩
theorem turn_enumM {P : Program} {w : World} {K : PySem.W.Frag} {elts : List Expr} {kk : Nat} {tpos : Pos} {S : Src} {e it : Addr} (hne : e ≠ it) (nf : e ∉ S.fp) (ni : it ∉ S.fp) :
    Turn P w K (.Tuple elts kk tpos) (IteM K S) [e, it] e (fun i h => (∃ old, IsEnum h e it ((i : Nat) : Int) old) ∧ S.it h it i) where
  mem := by simp
  obj := fun i h st b hb => by
    obtain ⟨⟨old, he⟩, hi⟩ := st
    have e' : b = e ∨ b = it := by simpa using hb
    rcases e' with z | z
    · rw [z]; exact ⟨_, he, fun v q => nomatch q⟩
    · rw [z]; exact Src.it_obj hi
  keep := fun i h h' st k => let ⟨⟨old, he⟩, hi⟩ := st; ⟨⟨old, k e (by simp) _ he⟩, Src.it_at hi fun o q => k it (by simp) o q⟩
  item := by
    intro X hP hw hK hc i pins s σ H E I hf st hg
    subst hP hw hK
    obtain ⟨⟨old, he⟩, hit⟩ := st
    obtain ⟨xs, x, hq, hx⟩ := hg
    have hh : X.A.in1.handled = none := I.ok.hd hc
    obtain ⟨us, s1, D1⟩ := Src.draws (A := X.A.in1) I hq hh ni
    have hl : i < xs.length := (List.getElem?_eq_some_iff.mp hx).1
    have hel : e < s.heap.objs.size := Heap.lt_size he
    have hil : it < s.heap.objs.size := by obtain ⟨_, q, _⟩ := Src.it_obj hit; exact Heap.lt_size q
    refine wpAny_pyNext_enum_itemC D1 he ⟨hit, s1⟩ hl hne (fun q => by rcases List.mem_cons.mp q with z | z; exact hne z; exact nf z) fun u h' tk p ho st' hT hsz hk => ?_
    obtain ⟨x', ex, ru⟩ := p
    rw [hx] at ex
    cases ex
    refine ⟨_, rfl, wpAny_letOwnedTupleGo_enum (s := { s with heap := h', toks := tk + 1 }) ho fun h'' he' sb => ?_⟩
    have hT2 : h''.get? s.heap.objs.size = some { cls := .type "tuple", data := .seq #[.int i tk, u] } := (sb.2 _ (Nat.ne_of_gt hel)).trans hT
    have new : ObjOk X.prog X.w (upd H s.heap.objs.size (.tup [.int (i : Nat), x])) h'' s.heap.objs.size (.tup [.int (i : Nat), x]) :=
      ⟨by show 2 ≤ sizeLine; decide, [.int i tk, u], .cons ⟨_, rfl⟩ (.cons ru .nil), ⟨_, hT2, rfl, _, rfl⟩⟩
    have I1 : Inv X pins σ (upd H s.heap.objs.size (.tup [.int (i : Nat), x])) { s with heap := h'', toks := tk + 1 } :=
      I.turnedNew (ch := [e, it]) (fun b ob hb q => (sb.2 b (fun z => hb (by simp [z]))).trans (hk b ob (fun z => hb (by simp [z])) (fun z => hb (by simp [z])) q)) hf (Nat.le_refl _) new
    refine ⟨.ref s.heap.objs.size, _, I1, rfl, ⟨_, x, rfl, I.hok.fresh (Nat.le_refl _), rfl, fun ys hy => by rw [Src.items_inj I hy hq]; exact hx⟩, ⟨⟨u, ?_⟩, Src.it_at st'.1 fun o q => (sb.2 it (Ne.symm hne)).trans q⟩, fun b hb => ?_⟩
    · have e1 : ((i + 1 : Nat) : Int) = (i : Int) + 1 := by omega
      rw [e1]; exact he'
    · have hb' : b < s.heap.objs.size := by
        have e' : b = e ∨ b = it := by simpa using hb
        rcases e' with z | z
        · rw [z]; exact hel
        · rw [z]; exact hil
      rw [upd_ne (Nat.ne_of_lt hb')]
      exact (hf b hb).1
  done := by
    intro X hP hw hK hc i pins s σ H E I hf st hg
    subst hP hw hK
    obtain ⟨⟨old, he⟩, hit⟩ := st
    obtain ⟨xs, hq, hx⟩ := hg
    have hh : X.A.in1.handled = none := I.ok.hd hc
    obtain ⟨us, s1, D1⟩ := Src.draws (A := X.A.in1) I hq hh ni
    obtain ⟨f0, f1, f2, f3, f4, f5⟩ := hf it (by simp)
    subst hx
    exact wpAny_pyNext_enum_endD D1 he ⟨hit, s1⟩ fun h' eb => ⟨rfl, I.turned (t' := s.toks) (fun b o hb q => eb b o hb q) f0 f1 f3 f4 f5⟩
  self := fun A i s Q E st h => let ⟨⟨_, he⟩, _⟩ := st; wpAny_pyIter_enum he h
def iEnumM (K : PySem.W.Frag) (ta : TA) : TI := fun σ H R => ta σ H fun vs H1 => ∃ x, vs = [x] ∧ ∀ u : Value, RelV x u → ∃ S xs, u = Src.val S ∧ S.items K H1 xs ∧ R (IteM K S) H1
theorem pi_enumM {X : Cx} {e : Expr} {ta : TA} {p pos tpos : Pos} {elts : List Expr} {kk : Nat} (hg : Gl X "enumerate") (hm : X.mg "enumerate" = none) (ha : PA X [e] ta) (hs : starEach [e] X.env = [(false, eval e X.env)] := by rfl) :
    PI X (.Tuple elts kk tpos) (.Call (.Name "enumerate" p) [e] [] pos) (iEnumM X.K ta) := by
  refine ⟨fun pins s σ H R I h => ?_⟩
  refine wpAny_Call_Name_kw (ld_blt I hg hm boot_enumerate ?_)
  refine PyProof.Rows.callWith_type1 (thn (ha.run pos pins s σ H _ I h) fun us s1 ⟨vs, H1, I1, r1, q1⟩ => ?_) hs rfl
  obtain ⟨x, ex, q⟩ := q1
  subst ex
  cases r1 with
  | cons r rr =>
    cases rr
    obtain ⟨S, xs, rfl, i1, q⟩ := q _ r
    obtain ⟨us1, t1, _⟩ := Src.vals I1 i1
    have lt1 := Src.fp_lt t1
    refine enum1_begins (Src.begins S us1) t1 fun h' he hit hsz hk => wpAny_pyIter_enum he ?_
    have I2 : Inv X pins σ H1 { s1 with heap := h' } := I1.kept (t' := s1.toks) hk
    refine ⟨s1.heap.objs.size + 1, [s1.heap.objs.size + 1, s1.heap.objs.size], _, _, H1, rfl, I2, turn_enumM (e := s1.heap.objs.size + 1) (it := s1.heap.objs.size) (Nat.succ_ne_self _) (fun q => absurd (lt1 _ q) (Nat.not_lt_of_le (Nat.le_succ _))) (fun q => Nat.lt_irrefl _ (lt1 _ q)), ⟨⟨.none, he⟩, Src.it_zero hit⟩, fun b hb => ?_, q⟩
    have e' : b = s1.heap.objs.size + 1 ∨ b = s1.heap.objs.size := by simpa using hb
    have hle : s1.heap.objs.size ≤ b := by
      rcases e' with z | z
      · rw [z]; exact Nat.le_add_right _ _
      · rw [z]; exact Nat.le_refl _
    exact I1.fpOk hle (I1.hok.fresh hle)
/-! ### by data -/
/-- d is walked as ds -/
inductive SV (M : Mem) : D → List D → Prop
  | dat {ds : List D} : SV M (.lst ds) ds
  | own {p : Addr} {ds : List D} (j : Nat) (h : M[j]? = some (some (p, .lst ds)) := by rfl) : SV M (.ref p) ds
  | tup {ds : List D} : SV M (.tup ds) ds
  | str {x : Str} : SV M (.str x) (x.cps.toList.map fun c => .str ⟨#[c]⟩)
theorem DtL.signs {w : World} {G : Hp} (l : List Nat) : DtL w G (l.map fun c => V.str ⟨#[c]⟩) (l.map fun c => D.str ⟨#[c]⟩) := by
  induction l with
  | nil => exact .nil
  | cons c l ih => exact .cons (.str _) ih
/-- the source, from the data: the same at each state that follows -/
theorem SV.src {w : World} {T : List Addr} {K : PySem.W.Frag} {G H : Hp} {M : Mem} {v : V} {u : Value} {d : D} {ds : List D} (l : SV M d ds) (hs : HS w T G H M) (r : Dt w G v d) (ru : RelV v u) :
    ∃ S : Src, u = S.val ∧ ∃ xs, S.items K H xs ∧ DtL w G xs ds ∧ ∀ (G2 H2 : Hp) (M2 : Mem), (∀ a o, G a = some o → G2 a = some o) → HS w T G2 H2 M2 → SV M2 d ds → ∃ ys, S.items K H2 ys ∧ DtL w G2 ys ds := by
  cases l with
  | dat =>
    cases r with
    | lst e r =>
      rename_i a xs
      refine ⟨.lst a, ru, xs, SqL.of (hs.sub _ _ e), r, fun G2 H2 M2 up hs2 _ => ⟨xs, SqL.of (hs2.sub _ _ (up _ _ e)), r.up up⟩⟩
  | own j h =>
    rename_i p
    cases r
    obtain ⟨_, xs, e, r⟩ := hs.mem _ _ (mem_of h)
    refine ⟨.lst p, ru, xs, SqL.of e, r, fun G2 H2 M2 up hs2 l2 => ?_⟩
    cases l2 with
    | own j2 h2 =>
      obtain ⟨_, ys, e2, r2⟩ := hs2.mem _ _ (mem_of h2)
      exact ⟨ys, SqL.of e2, r2⟩
  | tup =>
    cases r with
    | tup e r =>
      rename_i a xs
      refine ⟨.tup a, ru, xs, SqT.of (hs.sub _ _ e), r, fun G2 H2 M2 up hs2 _ => ⟨xs, SqT.of (hs2.sub _ _ (up _ _ e)), r.up up⟩⟩
  | str =>
    cases r
    obtain ⟨t, rfl⟩ := ru
    rename_i x
    exact ⟨.str x t, rfl, signs x, rfl, DtL.signs _, fun G2 H2 M2 _ _ _ => ⟨signs x, rfl, DtL.signs _⟩⟩
def zipD : List D → List D → List D
  | a :: as, b :: bs => .tup [a, b] :: zipD as bs
  | _, _ => []
theorem zipD_len : ∀ (as bs : List D), (zipD as bs).length = min as.length bs.length
  | [], _ => by simp [zipD]
  | _ :: _, [] => by simp [zipD]
  | a :: as, b :: bs => by
    simp only [zipD, List.length_cons, zipD_len as bs]
    omega
theorem zipD_get : ∀ {as bs : List D} {i : Nat} {d : D}, (zipD as bs)[i]? = some d → ∃ a b, as[i]? = some a ∧ bs[i]? = some b ∧ d = .tup [a, b]
  | [], bs, i, d, h => by simp [zipD] at h
  | a :: as, [], i, d, h => by simp [zipD] at h
  | a :: as, b :: bs, 0, d, h => by simp [zipD] at h; exact ⟨a, b, rfl, rfl, h.symm⟩
  | a :: as, b :: bs, i + 1, d, h => by
    simp [zipD] at h
    obtain ⟨x, y, h1, h2, h3⟩ := zipD_get h
    exact ⟨x, y, by simpa using h1, by simpa using h2, h3⟩
def enumFromD : Nat → List D → List D
  | _, [] => []
  | n, d :: ds => .tup [.int (n : Nat), d] :: enumFromD (n + 1) ds
theorem enumFromD_len : ∀ (n : Nat) (ds : List D), (enumFromD n ds).length = ds.length
  | _, [] => rfl
  | n, d :: ds => by simp only [enumFromD, List.length_cons, enumFromD_len (n + 1) ds]
theorem enumFromD_get : ∀ {n : Nat} {ds : List D} {i : Nat} {d : D}, (enumFromD n ds)[i]? = some d → ∃ a, ds[i]? = some a ∧ d = .tup [.int ((n + i : Nat) : Int), a]
  | n, [], i, d, h => by simp [enumFromD] at h
  | n, x :: ds, 0, d, h => by simp [enumFromD] at h; exact ⟨x, rfl, h.symm⟩
  | n, x :: ds, i + 1, d, h => by
    simp [enumFromD] at h
    obtain ⟨a, h1, h2⟩ := enumFromD_get h
    refine ⟨a, by simpa using h1, ?_⟩
    rw [h2, Nat.add_assoc, Nat.add_comm 1 i]
section
variable {X : Cx} {T : List Addr} {ρ : List (Option D)} {M M1 M2 : Mem} {da db : D} {a b e tg : Expr} {pos p tpos : Pos} {as bs : List D} {elts : List Expr} {kk : Nat}
theorem pdi_zip (l1 : SV M2 da as) (l2 : SV M2 db bs) (hm : X.mg "zip" = none) (ha : PD X T ρ M a da M1) (hb : PD X T ρ M1 b db M2) (hg : Gl X "zip" := by rfl) (hs : starEach [a, b] X.env = (false, eval a X.env) :: starEach [b] X.env := by rfl) (hs2 : starEach [b] X.env = (false, eval b X.env) :: starEach [] X.env := by rfl)
    (hpl : (backTo pos (starEach [b] X.env)).any (·.1) = false := by rfl) : PDI X T ρ M (.Tuple elts kk tpos) (.Call (.Name "zip" p) [a, b] [] pos) (zipD as bs) M2 (fun m => SV m da as ∧ SV m db bs) :=
  (pi_zipM hg hm (pdl_cons ha (pdl_1 hb hs2) hs) hs hpl).imp fun σ H R ⟨G, hs, sl, k⟩ => ⟨G, hs, sl, fun vs G1 H1 st hs1 r => by
    obtain ⟨v, u, rfl, r1, r2⟩ := r.two
    refine ⟨v, u, rfl, fun w1 w2 rw1 rw2 => ?_⟩
    obtain ⟨S1, e1, xs, j1, dd1, k1⟩ := l1.src (K := X.K) hs1 r1 rw1
    obtain ⟨S2, e2, ys, j2, dd2, k2⟩ := l2.src (K := X.K) hs1 r2 rw2
    refine ⟨S1, S2, xs, ys, e1, e2, j1, j2, k _ G1 H1 st hs1 ⟨fun i G2 H2 M2 hi st2 hs2 hok => ?_, fun i G2 H2 M2 x H' d st2 hs2 hok hd hy => ?_, fun G2 H2 M2 st2 hs2 hok => ?_⟩⟩
    · obtain ⟨xs2, a1, b1⟩ := k1 G2 H2 M2 st2.up hs2 hok.1
      obtain ⟨ys2, a2, b2⟩ := k2 G2 H2 M2 st2.up hs2 hok.2
      rw [zipD_len] at hi
      have h1 : i < xs2.length := by rw [b1.length]; omega
      have h2 : i < ys2.length := by rw [b2.length]; omega
      exact ⟨xs2, ys2, xs2[i], ys2[i], a1, a2, List.getElem?_eq_getElem h1, List.getElem?_eq_getElem h2⟩
    · obtain ⟨xs2, a1, b1⟩ := k1 G2 H2 M2 st2.up hs2 hok.1
      obtain ⟨ys2, a2, b2⟩ := k2 G2 H2 M2 st2.up hs2 hok.2
      obtain ⟨p, x1, y1, rfl, hp, rfl, g1, g2⟩ := hy
      obtain ⟨da', db', q1, q2, rfl⟩ := zipD_get hd
      obtain ⟨v1, w1', r1'⟩ := b1.get q1
      obtain ⟨v2, w2', r2'⟩ := b2.get q2
      have f1 := g1 xs2 a1
      have f2 := g2 ys2 a2
      rw [w1'] at f1
      rw [w2'] at f2
      cases f1
      cases f2
      exact ⟨_, Step.newI hs2 hp, hs2.new hp (fun _ z => by cases z), .tup upd_same (.cons (r1'.up (up_upd (hs2.freshG hp))) (.cons (r2'.up (up_upd (hs2.freshG hp))) .nil))⟩
    · obtain ⟨xs2, a1, b1⟩ := k1 G2 H2 M2 st2.up hs2 hok.1
      obtain ⟨ys2, a2, b2⟩ := k2 G2 H2 M2 st2.up hs2 hok.2
      have e1 := b1.length
      have e2 := b2.length
      refine ⟨xs2, ys2, a1, a2, ?_, ?_, ?_⟩ <;> rw [zipD_len] <;> omega⟩
theorem pdi_enum (l1 : SV M1 da as) (hm : X.mg "enumerate" = none) (ha : PD X T ρ M a da M1) (hg : Gl X "enumerate" := by rfl) (hs : starEach [a] X.env = (false, eval a X.env) :: starEach [] X.env := by rfl) :
    PDI X T ρ M (.Tuple elts kk tpos) (.Call (.Name "enumerate" p) [a] [] pos) (enumFromD 0 as) M1 (fun m => SV m da as) :=
  (pi_enumM hg hm (pdl_1 ha hs) hs).imp fun σ H R ⟨G, hs, sl, k⟩ => ⟨G, hs, sl, fun vs G1 H1 st hs1 r => by
    obtain ⟨v, rfl, r1⟩ := r.one
    refine ⟨v, rfl, fun w1 rw1 => ?_⟩
    obtain ⟨S1, e1, xs, j1, dd1, k1⟩ := l1.src (K := X.K) hs1 r1 rw1
    refine ⟨S1, xs, e1, j1, k _ G1 H1 st hs1 ⟨fun i G2 H2 M2 hi st2 hs2 hok => ?_, fun i G2 H2 M2 x H' d st2 hs2 hok hd hy => ?_, fun G2 H2 M2 st2 hs2 hok => ?_⟩⟩
    · obtain ⟨xs2, a1, b1⟩ := k1 G2 H2 M2 st2.up hs2 hok
      rw [enumFromD_len] at hi
      have h1 : i < xs2.length := by rw [b1.length]; omega
      exact ⟨xs2, xs2[i], a1, List.getElem?_eq_getElem h1⟩
    · obtain ⟨xs2, a1, b1⟩ := k1 G2 H2 M2 st2.up hs2 hok
      obtain ⟨p, x1, rfl, hp, rfl, g1⟩ := hy
      obtain ⟨da', q1, rfl⟩ := enumFromD_get hd
      obtain ⟨v1, w1', r1'⟩ := b1.get q1
      have f1 := g1 xs2 a1
      rw [w1'] at f1
      cases f1
      rw [Nat.zero_add]
      exact ⟨_, Step.newI hs2 hp, hs2.new hp (fun _ z => by cases z), .tup upd_same (.cons (.int _) (.cons (r1'.up (up_upd (hs2.freshG hp))) .nil))⟩
    · obtain ⟨xs2, a1, b1⟩ := k1 G2 H2 M2 st2.up hs2 hok
      exact ⟨xs2, a1, by rw [enumFromD_len, b1.length]⟩⟩
/-- a text, sign by sign -/
theorem pdi_str {x : Str} (h : PD X T ρ M e (.str x) M1) : PDI X T ρ M tg e (x.cps.toList.map fun c => D.str ⟨#[c]⟩) M1 (fun _ => True) :=
  (pi_str h).imp fun σ H R ⟨G, hs, sl, k⟩ => ⟨G, hs, sl, fun v G1 H1 st hs1 r => by
    cases r
    refine ⟨x, rfl, k _ G1 H1 st hs1 ⟨fun i G2 H2 M2 hi st2 hs2 hok => by show i < x.cps.size; simpa using hi, fun i G2 H2 M2 y H' d st2 hs2 hok hd hy => ?_, fun G2 H2 M2 st2 hs2 hok => by show x.cps.size ≤ _; simp⟩⟩
    obtain ⟨rfl, c, hc, rfl⟩ := hy
    rw [List.getElem?_map, Array.getElem?_toList, hc] at hd
    cases hd
    exact ⟨G2, Step.refl _ _ _, hs2, .str _⟩⟩
end
end LW

set_option Elab.async false
set_option linter.all false
set_option maxRecDepth 100000
set_option maxHeartbeats 4000000
/-! LG: generator expressions whose element may be anything, walked by a builtin. -/
namespace LW
open PySem PySem.Spec PyProof.Rows L2
open Sem (wp)
/-- a generator expression's scope beside the def's names N -/
structure GenB (N : List Str) (sc scope : Scope) (own : List (Str × Nat)) : Prop where
  kind : scope.kind = .function
  co : scope.isCoroutine = false
  uniq : ∀ y ∈ scope.names, scope.names.lookup y.1 = some y.2
  ix : ∀ p ∈ own, N[p.2]? = some p.1
  free : ∀ y ∈ scope.names, y.2 = .free → sc.names.lookup y.1 = some .cell ∨ sc.names.lookup y.1 = some .free
  own : ∀ y ∈ scope.names, y.2 = .local → y.1 ∈ own.map (·.1) ∨ y.1 ∉ N
  cell : ∀ y ∈ scope.names, y.2 ≠ .cell
  dot : scope.names.lookup (".0" : Str) = some NameKind.local
def genBC (N : List Str) (sc scope : Scope) (own : List (Str × Nat)) : Bool :=
  (match scope.kind with | .function => true | _ => false) && (!scope.isCoroutine) && (scope.names.all fun y => decide (scope.names.lookup y.1 = some y.2)) && (own.all fun p => decide (N[p.2]? = some p.1)) &&
    (scope.names.all fun y => match y.2 with
      | .free => (match sc.names.lookup y.1 with | some .cell => true | some .free => true | _ => false)
      | .local => decide (y.1 ∈ own.map (·.1)) || decide (y.1 ∉ N)
      | .cell => false
      | _ => true) && decide (scope.names.lookup (".0" : Str) = some NameKind.local)
theorem genB_by {N : List Str} {sc scope : Scope} {own : List (Str × Nat)} (h : genBC N sc scope own = true) : GenB N sc scope own := by
  unfold genBC at h
  simp only [Bool.and_eq_true] at h
  obtain ⟨⟨⟨⟨⟨h1, h2⟩, h3⟩, h4⟩, h5⟩, h6⟩ := h
  rw [List.all_eq_true] at h3 h4 h5
  refine ⟨?_, by simpa using h2, fun y hy => of_decide_eq_true (h3 y hy), fun p hp => of_decide_eq_true (h4 p hp), fun y hy e => ?_, fun y hy e => ?_, fun y hy e => ?_, of_decide_eq_true h6⟩
  · split at h1
    · assumption
    · cases h1
  · have q := h5 y hy
    rw [e] at q
    simp only at q
    split at q
    · rename_i z; exact .inl z
    · rename_i z; exact .inr z
    · cases q
  · have q := h5 y hy
    rw [e] at q
    simp only [Bool.or_eq_true, decide_eq_true_eq] at q
    exact q
  · have q := h5 y hy
    rw [e] at q
    cases q
/-- the context of the generator's block -/
abbrev gcx (X : Cx) (Ag : Around) (s : Shared) (H : Hp) (cenv : Env) (fp : List Addr) (pn : List (Addr × Obj)) : Cx :=
  { X with A := Ag, s_0 := s, H_0 := H, env := cenv, outer := X.stack, stack := cenv :: X.stack, ex := fp, fn := fun _ => false, pn := pn, xe := fun _ _ => False, calm := true }
theorem over_comp {A : Around} {elt tg iter : Expr} {ifs : List Expr} {scope : Scope} {pos : Pos} {it acc : Value} {env : Env} : A.over (.compLoop (.GeneratorExp elt [⟨tg, iter, ifs, 0⟩] scope pos) 0 it acc env) [] = A.deeper env := by
  first
    | rfl
    | (obtain ⟨hd, d, fr, gs, u⟩ := A; simp [Around.over, Around.deeper, marksOver, frameCount, unitsOf, envsOf, guardsOf, pushEnvs, pushGuards, Code.envs, Code.env?, Code.isFrame, Code.guards, Code.isGuard, Code.weight, Code.frames, Code.isCreation, Code.isCaller, Code.cUnits])
theorem over_compS {A : Around} {elt tg iter : Expr} {ifs : List Expr} {scope : Scope} {pos : Pos} {it acc : Value} {env : Env} : A.over (.compStart (.GeneratorExp elt [⟨tg, iter, ifs, 0⟩] scope pos) 0 it acc env) [] = A.deeper env := by
  first
    | rfl
    | (obtain ⟨hd, d, fr, gs, u⟩ := A; simp [Around.over, Around.deeper, marksOver, frameCount, unitsOf, envsOf, guardsOf, pushEnvs, pushGuards, Code.envs, Code.env?, Code.isFrame, Code.guards, Code.isGuard, Code.weight, Code.frames, Code.isCreation, Code.isCaller, Code.cUnits])
section
variable {X : Cx} {pins : List (Addr × Obj)} {σ : L2.St} {H : Hp} {s : Shared}
/-- the block at its start: its frame's object is new, the generator's object behind it -/
theorem gen_start {scope : Scope} {own : List (Str × Nat)} {fp : List Addr} {Ag : Around} {code itv : Value} {h5 : Heap} {og : Obj} {gs : Array GenState} {tk : Nat} (I : Inv X pins σ H s) (ok : GenB X.N X.env.scope scope own) (hN : X.N.Nodup) (hfp : ∀ b ∈ fp, FpOk X pins H b ∧ b < s.heap.objs.size)
    (hd : Ag.handled = none) (hfr : Ag.frames = some (genEnv scope (cloFrom X.env.cells scope.names []) s.heap.objs.size code builtinsNs X.env :: X.stack))
    (hn : h5.Ns s.heap.objs.size (fun y => if y = (".0" : Str) then some itv else none)) (hk : ∀ b o, s.heap.get? b = some o → h5.get? b = some o) (hz : h5.objs.size = s.heap.objs.size + 2) (hog : h5.get? (s.heap.objs.size + 1) = some og) (hoc : ∀ v, og.data ≠ .cell v) (hg : AllBare gs) :
    Inv (gcx X Ag s H (genEnv scope (cloFrom X.env.cells scope.names []) s.heap.objs.size code builtinsNs X.env) fp [(s.heap.objs.size + 1, og)]) [] (wipe σ (own.map (·.2))) H { s with heap := h5, gens := gs, toks := tk } := by
  have hfree : ∀ y ∈ scope.names, y.2 = .free → ∃ c, X.env.cells.lookup y.1 = some c := fun y hy e => by
    rcases ok.free y hy e with k | k
    · exact I.ok.has _ (.inl k)
    · exact I.ok.has _ (.inr k)
  generalize hcenv : genEnv scope (cloFrom X.env.cells scope.names []) s.heap.objs.size code builtinsNs X.env = cenv at hfr
  have hL : cenv.locals = s.heap.objs.size := by rw [← hcenv]; rfl
  have hcl : cenv.cells = cloFrom X.env.cells scope.names [] := by rw [← hcenv]; rfl
  have hsc : cenv.scope = scope := by rw [← hcenv]; rfl
  have cm : ∀ {y c}, (y, c) ∈ cloFrom X.env.cells scope.names [] → X.env.cells.lookup y = some c ∧ c < s.heap.objs.size := fun {y c} hm => by
    rcases cloFrom_mem hm with hm | ⟨h1, rfl⟩
    · cases hm
    · obtain ⟨c, hc⟩ := hfree _ h1 rfl
      rw [hc]
      obtain ⟨w, z⟩ := I.cell _ _ hc
      exact ⟨rfl, z.lt⟩
  have mem : ∀ {y c}, cenv.cells.lookup y = some c → X.env.cells.lookup y = some c ∧ c < s.heap.objs.size := fun {y c} e => by
    rw [hcl] at e
    exact cm (PySem.mem_of_lookup e)
  have look : ∀ {y}, scope.names.lookup y = some .free → ∃ c, cenv.cells.lookup y = some c ∧ X.env.cells.lookup y = some c := fun {y} hl => by
    have hy : (y, NameKind.free) ∈ scope.names := PySem.mem_of_lookup hl
    obtain ⟨c', e'⟩ := mem_lookup (cloFrom_has (cells := X.env.cells) (acc := []) hy)
    rw [← hcl] at e'
    exact ⟨c', e', (mem e').1⟩
  have okB : (gcx X Ag s H cenv fp [(s.heap.objs.size + 1, og)]).Ok := by
    refine ⟨I.ok.mod, by show cenv.scope.kind = _; rw [hsc]; exact ok.kind, by show cenv.globals = _; rw [← hcenv]; exact I.ok.glob, by show cenv.builtins = _; rw [← hcenv]; rfl, by show s.heap.objs.size ≤ cenv.locals; rw [hL]; exact Nat.le_refl _,
      fun y z c e1 e2 => ?_, fun y hy => ?_, fun y c z e => ?_, fun _ => hd, hfr, .inr ⟨rfl, ?_⟩, fun b hb => ⟨?_, fun y c e z => ?_⟩, I.bs, Nat.le_trans I.ok.bsz I.sz, fun b o e hb => ?_, fun b hb z => ?_, I.stack, I.stkFree⟩
    · have e1 : cenv.cells.lookup y = some c := e1
      have e2 : cenv.cells.lookup z = some c := e2
      exact I.ok.inj y z c (mem e1).1 (mem e2).1
    · show ∃ c, cenv.cells.lookup y = some c
      rcases hy with hy | hy
      · have hy : scope.names.lookup y = some .cell := by rw [← hsc]; exact hy
        exact absurd rfl (ok.cell _ (PySem.mem_of_lookup hy))
      · have hy : scope.names.lookup y = some .free := by rw [← hsc]; exact hy
        obtain ⟨c, h1, _⟩ := look hy
        exact ⟨c, h1⟩
    · cases z
    · show cenv.frame = some cenv.locals
      rw [← hcenv]
      rfl
    · show b ≠ cenv.locals
      rw [hL]; exact Nat.ne_of_lt (hfp b hb).2
    · have e : cenv.cells.lookup y = some c := e
      exact (hfp b hb).1.2.2.2.2.1 y c (mem e).1 z
    · rcases (hfp b hb).1.2.2.2.1 with z | z
      · exact I.ok.noex b o e z
      · exact absurd (Nat.lt_of_lt_of_le (Heap.lt_size e) (Nat.le_trans I.ok.bsz z)) (Nat.lt_irrefl _)
    · rcases List.mem_cons.mp (I.stkSub b z) with z | z
      · exact (hfp b hb).1.2.1 z
      · exact (hfp b hb).1.2.2.1 z
  refine ⟨okB, rfl, hg, Un.kept hk, ⟨(fun y => if y = (".0" : Str) then some itv else none), ?_, fun i y av e1 e2 e3 => ?_⟩, fun y c e => ?_, ?_, fun y c e => ?_, fun p hp => ?_, I.hok.kept hk, by rw [wipe_length]; exact I.len⟩
  · show Heap.Ns _ cenv.locals _
    rw [hL]
    exact hn
  · obtain ⟨e2, hne⟩ := wipe_some e2
    have hfr : scope.names.lookup y = some .free ∧ cenv.kindOf y = some .free := by
      have no : ¬ (scope.names.lookup y = some .local) := fun hh => by
        rcases ok.own _ (PySem.mem_of_lookup hh) rfl with e' | e'
        · obtain ⟨p, hp, hpy⟩ := List.mem_map.mp e'
          have e3 := ok.ix p hp
          have : p.1 = y := hpy
          rw [this] at e3
          exact hne (List.mem_map.mpr ⟨p, hp, nodup_ix hN e3 e1⟩)
        · exact e' (List.mem_of_getElem? e1)
      have e3 : Vis cenv.scope y := e3
      unfold Vis at e3
      rw [hsc] at e3
      rcases e3 with e3 | e3 | e3
      · exact absurd e3 no
      · exact absurd rfl (ok.cell _ (PySem.mem_of_lookup e3))
      · exact ⟨e3, by show cenv.scope.names.lookup y = _; rw [hsc]; exact e3⟩
    obtain ⟨m, hn, hl⟩ := I.loc
    have hvis : Vis X.env.scope y := (ok.free _ (PySem.mem_of_lookup hfr.1) rfl).elim (fun k => .inr (.inl k)) (fun k => .inr (.inr k))
    obtain ⟨w, r, q⟩ := hl i y av e1 e2 hvis
    refine ⟨w, r, .inr ⟨.inr hfr.2, ?_⟩⟩
    obtain ⟨c, h1, h2⟩ := look hfr.1
    rcases q with ⟨k, _⟩ | ⟨_, c', e', z⟩
    · have k : X.env.scope.names.lookup y = some .local := k
      rcases ok.free _ (PySem.mem_of_lookup hfr.1) rfl with k' | k' <;> rw [show X.env.scope.names.lookup y = _ from k'] at k <;> cases k
    · rw [h2] at e'; cases e'
      exact ⟨c, h1, z.keeps hk⟩
  · have e : cenv.cells.lookup y = some c := e
    obtain ⟨v, z⟩ := I.cell y c (mem e).1
    exact ⟨v, z.keeps hk⟩
  · show H cenv.locals = none
    rw [hL]
    exact I.hok.fresh (Nat.le_refl _)
  · exact I.freeC y c (mem (show cenv.cells.lookup y = some c from e)).1
  · rw [List.append_nil, List.mem_singleton] at hp
    subst hp
    refine ⟨hog, I.hok.fresh (Nat.le_succ _), ?_, fun z => ?_, hoc⟩
    · show s.heap.objs.size + 1 ≠ cenv.locals
      rw [hL]
      exact Nat.succ_ne_self _
    · have : s.heap.objs.size + 1 < s.heap.objs.size := by
        have q := I.stkSub _ z
        rcases List.mem_cons.mp q with q | q
        · have q : s.heap.objs.size + 1 = X.env.locals := q
          exact q ▸ I.lt
        · exact absurd q (I.nofs (Nat.le_succ _))
      omega
end
/-! ### the consumer -/
/-- what a builtin makes of the items: go on with a state, or give a value -/
structure Cons (S : Type) where
  take : S → V → Option (S ⊕ V)
  fin : S → V
  /-- where its own state lies -/
  Lk : S → List (Addr × Obj) → Prop
/-- the reading: W by the turn, a measure and the builtin's state -/
def GTurns {S : Type} (C : Cons S) (J : It) (g : TG) (tt : TT) (te : TE) (σw : L2.St) (vs : List Nat) (Q : VK) (W : Nat → Nat → S → Hp → Prop) : Prop := ∀ i m a H, W i m a H →
  (J.stop i H ∧ Q (C.fin a) H) ∨ (J.go i H ∧ ∃ Nx : S → Hp → Prop, (∀ a' H', Nx a' H' → ∃ m', m' < m ∧ W (i + 1) m' a' H') ∧ ∀ x H', J.yld i H x H' → g x σw H' fun σ2 H2 => wipe σ2 vs = σw ∧ tt σ2 H2 fun b H3 =>
    if b = true then te σ2 H3 fun y H4 => ∃ r, C.take a y = some r ∧ (match r with | .inl a' => Nx a' H4 | .inr z => Q z H4) else Nx a H3)
section
variable {S : Type} {C : Cons S} {X : Cx} {fp : List Addr}
/-- an item is handed out -/
def gxY (C : Cons S) (X : Cx) (fp : List Addr) (Q : VK) : Protocol := fun n s₀ v s kap => ∃ (a : S) (pins : List (Addr × Obj)) (y : V) (σ : L2.St) (H : Hp) (r : S ⊕ V), C.Lk a pins ∧ (∀ p ∈ pins, s₀.heap.get? p.1 = some p.2) ∧ Inv X pins σ H s ∧ RelV y v ∧ C.take a y = some r ∧
  (match r with
    | .inr z => Q z H
    | .inl a' => ∀ (s'' : Shared) (pins' : List (Addr × Obj)), C.Lk a' pins' → Inv X pins' σ H s'' → (∀ b ∈ fp, ∀ o, s.heap.get? b = some o → s''.heap.get? b = some o) → kap (.send .none) s'')
def gxR (C : Cons S) (X : Cx) (Q : VK) : Nat → Shared → Shared → Prop := fun n s₀ s => ∃ (a : S) (pins : List (Addr × Obj)) (σ : L2.St) (H : Hp), C.Lk a pins ∧ (∀ p ∈ pins, s₀.heap.get? p.1 = some p.2) ∧ Inv X pins σ H s ∧ Q (C.fin a) H
theorem seg_gx {prog : Program} {w : World} {K : PySem.W.Frag} {A : Around} {elt tg iter : Expr} {ifs : List Expr} {scope : Scope} {pos : Pos} {it : Addr} {J : It} {tn : Nat → Heap → Prop} {g : TG} {tt : TT} {te : TE} {σw : L2.St} {vs : List Nat} {Q : VK} {W : Nat → Nat → S → Hp → Prop}
    (hp : X.prog = prog) (hw : X.w = w) (hK : X.K = K) (hcalm : X.calm = true) (hxe : X.xe = fun _ _ => False) (hA : A.deeper X.env = X.A) (hco : X.env.scope.isCoroutine = false)
    (Tn : Turn prog w K tg J fp it tn) (hg : PG X tg g) (ht : PTs X ifs tt) (he : PE X elt te) (hs : GTurns C J g tt te σw vs Q W) (hLk : ∀ a pins, C.Lk a pins → ∀ p ∈ pins, ∀ b ∈ fp, p.1 ≠ b) :
    ∀ (m : Nat) (n i : Nat) (a : S) (pins : List (Addr × Obj)) (H : Hp) (s₀ s : Shared), m < n → W i m a H → C.Lk a pins → (∀ p ∈ pins, s₀.heap.get? p.1 = some p.2) → Inv X pins σw H s → tn i s.heap → (∀ b ∈ fp, FpOk X [] H b) →
      Seg (model prog w) A (fun n s₀ r s₁ => r = .ok .next ∧ gxR C X Q n s₀ s₁) (gxY C X fp Q) n s₀ (.compLoop (.GeneratorExp elt [⟨tg, iter, ifs, 0⟩] scope pos) 0 (.ref it) .none X.env)
        ((model prog w).den (.compLoop (.GeneratorExp elt [⟨tg, iter, ifs, 0⟩] scope pos) 0 (.ref it) .none X.env)) [] s := by
  subst hp hw hK
  intro m
  induction m using Nat.strongRecOn with
  | _ m ih =>
    intro n i a pins H s₀ s hmn hW hL h0 I htn hfp
    have fpA : ∀ {H' : Hp}, (∀ b ∈ fp, H' b = none) → (∀ b ∈ fp, FpOk X pins H' b) := fun {H'} h b hb => by
      obtain ⟨_, f1, f2, f3, f4, f5⟩ := hfp b hb
      refine ⟨h b hb, f1, f2, f3, f4, fun p hp => ?_⟩
      rcases List.mem_append.mp hp with z | z
      · exact f5 p (List.mem_append_left _ z)
      · exact hLk a pins hL p z b hb
    have fpN : ∀ {H' : Hp}, (∀ b ∈ fp, H' b = none) → (∀ b ∈ fp, FpOk X [] H' b) := fun {H'} h b hb => by
      obtain ⟨_, f1, f2, f3, f4, f5⟩ := hfp b hb
      exact ⟨h b hb, f1, f2, f3, f4, f5⟩
    have hA' : A.over (.compLoop (.GeneratorExp elt [⟨tg, iter, ifs, 0⟩] scope pos) 0 (.ref it) .none X.env) [] = X.A := over_comp.trans hA
    have no : ∀ {x : Value} {s' : Shared} {P : Prop}, X.xe x s' → P := fun {x s' P} h => by rw [hxe] at h; exact h.elim
    show Seg _ A _ _ _ s₀ _ ((compTurn (.GeneratorExp elt [⟨tg, iter, ifs, 0⟩] scope pos) 0 (.ref it) .none X.env).onRaise (leaving X.env)) [] s
    rw [compTurn_gen, Sem.onRaise_eq_wrap]
    refine seg_bind_wrap (wpAny_standAt ?_)
    rcases hs i m a H hW with ⟨hstop, hQ⟩ | ⟨hgo, Nx, hNx, hturn⟩
    · refine seg_bind_wrap ?_
      rw [hA']
      refine wpAny_mono (Tn.done X rfl rfl rfl hcalm i pins s σw H (fun _ _ => False) I (fpA fun b hb => (hfp b hb).1) htn hstop) (fun r s1 h1 => ?_) (fun x s1 h1 => h1.elim)
      obtain ⟨rfl, I1⟩ := h1
      exact seg_end (.ok .next) ⟨rfl, a, pins, σw, H, hL, h0, I1, hQ⟩
    · refine seg_bind_wrap ?_
      rw [hA']
      refine wpAny_mono (Tn.item X rfl rfl rfl hcalm i pins s σw H (fun _ _ => False) I (fpA fun b hb => (hfp b hb).1) htn hgo) (fun r s1 h1 => ?_) (fun x s1 h1 => h1.elim)
      obtain ⟨u, rfl, h1⟩ := h1
      refine seg_bind_wrap ?_
      rw [hA']
      refine wpAny_mono h1 (fun _ s2 h2 => ?_) (fun x s1 h1 => h1.elim)
      obtain ⟨x, H2, I2, ru, hy, htn2, hn2⟩ := h2
      have hpin : Inv X (pins ++ pinsAt fp s2.heap) σw H2 s2 := I2.pinned (fpA hn2) (Tn.obj (i + 1) s2.heap htn2)
      have after : ∀ {σ' : L2.St} {H' : Hp} {s' : Shared}, Inv X (pins ++ pinsAt fp s2.heap) σ' H' s' → (∀ b ∈ fp, ∀ o, s2.heap.get? b = some o → s'.heap.get? b = some o) ∧ ∀ b ∈ fp, H' b = none := fun {σ' H' s'} J' => by
        have key : ∀ b ∈ fp, ∀ o, s2.heap.get? b = some o → s'.heap.get? b = some o ∧ H' b = none := fun b hb o e => by
          have q := J'.pin (b, o) (List.mem_append_right _ (List.mem_append_right _ (mem_pinsAt hb e)))
          exact ⟨q.1, q.2.1⟩
        refine ⟨fun b hb o e => (key b hb o e).1, fun b hb => ?_⟩
        obtain ⟨o, e, _⟩ := Tn.obj (i + 1) s2.heap htn2 b hb
        exact (key b hb o e).2
      refine seg_bind_wrap ?_
      rw [hA']
      refine wpAny_mono (hg.run _ s2 σw H2 x u _ hpin ru (hturn x H2 hy)) (fun _ s3 h3 => ?_) (fun x s1 h1 => no h1)
      obtain ⟨σ3, H3, I3, hwipe, h3⟩ := h3
      refine seg_bind_wrap ?_
      rw [hA']
      refine wpAny_mono (ht.run _ s3 σ3 H3 _ I3 h3) (fun b s4 h4 => ?_) (fun x s1 h1 => no h1)
      obtain ⟨H4, I4, h4⟩ := h4
      have weak : ∀ {pp : List (Addr × Obj)} {H' : Hp} {s' : Shared}, Inv X pp σ3 H' s' → Inv X pp σw H' s' := fun {pp H' s'} J' => J'.weak (by rw [← hwipe, wipe_length]) fun j v e => by
        rw [← hwipe] at e
        exact (wipe_some e).1
      cases b with
      | false =>
        simp only [Bool.false_eq_true, if_false]
        rw [if_neg Bool.false_ne_true] at h4
        obtain ⟨m', hm', hW'⟩ := hNx a H4 h4
        obtain ⟨k1, k2⟩ := after I4
        refine seg_again rfl (ih m' hm' n (i + 1) a pins H4 s₀ s4 (Nat.lt_trans hm' hmn) hW' hL h0 (weak I4.unpinned) (Tn.keep _ _ _ htn2 k1) (fpN k2))
      | true =>
        simp only [if_true]
        rw [if_pos rfl] at h4
        have hyo : ∀ v, yieldOut X.env v = yieldValue v := fun v => by simp only [yieldOut, hco, Bool.false_eq_true, if_false]
        simp only [hyo]
        rw [Sem.bind_eq_wrap', Sem.bind_eq_wrap', Sem.wrap_wrap, Sem.wrap_wrap]
        refine seg_wrap ?_
        rw [hA']
        refine wpAny_mono (he.run _ s4 σ3 H4 _ I4 h4) (fun v s5 h5 => ?_) (fun x s1 h1 => no h1)
        obtain ⟨y, H5, I5, ry, r, hr, h5⟩ := h5
        obtain ⟨n', rfl⟩ : ∃ n', n = n' + 1 := ⟨n - 1, by omega⟩
        refine seg_at (seg_yield rfl rfl rfl ⟨a, pins, y, σw, H5, r, hL, h0, weak I5.unpinned, ry, hr, ?_⟩)
        obtain ⟨k1, k2⟩ := after I5
        cases r with
        | inr z => exact h5
        | inl a' =>
          intro s6 pins' hL' I6 hk6
          obtain ⟨m', hm', hW'⟩ := hNx a' H5 h5
          exact seg_again rfl (ih m' hm' n' (i + 1) a' pins' H5 s6 s6 (by omega) hW' hL' (fun p hp => (I6.pin p (List.mem_append_right _ hp)).1) I6 (Tn.keep _ _ _ htn2 fun b hb o e => hk6 b hb o (k1 b hb o e)) (fpN k2))
theorem seg_gxS {prog : Program} {w : World} {K : PySem.W.Frag} {A : Around} {elt tg iter : Expr} {ifs : List Expr} {scope : Scope} {pos : Pos} {it : Addr} {J : It} {tn : Nat → Heap → Prop} {g : TG} {tt : TT} {te : TE} {σw : L2.St} {vs : List Nat} {Q : VK} {W : Nat → Nat → S → Hp → Prop}
    (hp : X.prog = prog) (hw : X.w = w) (hK : X.K = K) (hcalm : X.calm = true) (hxe : X.xe = fun _ _ => False) (hA : A.deeper X.env = X.A) (hco : X.env.scope.isCoroutine = false)
    (Tn : Turn prog w K tg J fp it tn) (hg : PG X tg g) (ht : PTs X ifs tt) (he : PE X elt te) (hs : GTurns C J g tt te σw vs Q W) (hLk : ∀ a pins, C.Lk a pins → ∀ p ∈ pins, ∀ b ∈ fp, p.1 ≠ b)
    {m n : Nat} {a : S} {pins : List (Addr × Obj)} {H : Hp} {s₀ s : Shared} (hmn : m < n) (hW : W 0 m a H) (hL : C.Lk a pins) (h0 : ∀ p ∈ pins, s₀.heap.get? p.1 = some p.2) (I : Inv X pins σw H s) (htn : tn 0 s.heap) (hfp : ∀ b ∈ fp, FpOk X [] H b) :
      Seg (model prog w) A (fun n s₀ r s₁ => r = .ok .next ∧ gxR C X Q n s₀ s₁) (gxY C X fp Q) n s₀ (.compStart (.GeneratorExp elt [⟨tg, iter, ifs, 0⟩] scope pos) 0 (.ref it) .none X.env)
        ((model prog w).den (.compStart (.GeneratorExp elt [⟨tg, iter, ifs, 0⟩] scope pos) 0 (.ref it) .none X.env)) [] s := by
  have loop := seg_gx (iter := iter) (scope := scope) (pos := pos) hp hw hK hcalm hxe hA hco Tn hg ht he hs hLk m n 0 a pins H s₀ s hmn hW hL h0 I htn hfp
  show Seg _ A _ _ _ s₀ _ ((compStart (.GeneratorExp elt [⟨tg, iter, ifs, 0⟩] scope pos) 0 (.ref it) .none X.env).onRaise (leaving X.env)) [] s
  unfold compStart
  rw [Sem.onRaise_eq_wrap]
  show Seg _ A _ _ _ s₀ _ ((ask >>= _).wrap _ _ _ _) [] s
  refine seg_bind_wrap (wpAny_askSetting ?_)
  split
  · exact seg_again rfl loop
  · first
      | exact seg_bind_wrap (wpAny_rule (seg_bind_wrap (wpAny_standAt (seg_bind_wrap (Tn.self _ 0 s _ _ htn (seg_again rfl loop))))))
      | (refine seg_bind_wrap (wpAny_rule ?_); show Seg _ A _ _ _ s₀ _ ((standAt iter.pos >>= _).wrap _ _ _ _) [] s; exact seg_bind_wrap (wpAny_standAt (seg_bind_wrap (Tn.self _ 0 s _ _ htn (seg_again rfl loop)))))
/-- the generator, as the builtin finds it -/
def GAt (C : Cons S) (X : Cx) (fp : List Addr) (A : Around) (Q : VK) (gi : Nat) (n : Nat) (a : S) (s : Shared) : Prop :=
  ∃ (pins : List (Addr × Obj)) (σ : L2.St) (H : Hp) (gs : GenState), C.Lk a pins ∧ Inv X pins σ H s ∧ s.gens[gi]? = some gs ∧
    ∀ (s'' : Shared) (pins' : List (Addr × Obj)), C.Lk a pins' → Inv X pins' σ H s'' → (∀ b ∈ fp, ∀ o, s.heap.get? b = some o → s''.heap.get? b = some o) →
      gs.Goes (model X.prog X.w) A (fun n s₀ r s₁ => r = .ok .next ∧ gxR C X Q n s₀ s₁) (gxY C X fp Q) n (.send .none) s''
theorem Inv.gensAny {pins : List (Addr × Obj)} {σ : L2.St} {H : Hp} {s : Shared} {g' : Array GenState} {t' : Nat} (I : Inv X pins σ H s) (hg : AllBare g') : Inv X pins σ H { s with gens := g', toks := t' } := by
  have q := I.step (h' := s.heap) (g' := g') (t' := t') (d' := s.drawn) (ch := []) (H' := H) (fun b hb => absurd hb (by simp)) (fun b o _ _ _ e _ => e) (fun b o _ _ _ e _ => ⟨o.slots, e⟩) (fun b o _ _ e => e) (fun b o _ e => ⟨o, e⟩) (fun b xs e => e) (fun b o u e => e) (fun b ps e => ⟨#[], by rw [e]; simp⟩) (fun m h => h) I.hok hg
  exact q
theorem bare_set {s : Shared} {g : Nat} {x : GenState} (h : AllBare s.gens) (hx : x.bare = true) : AllBare (s.setGen g x).gens := by
  intro y hy
  have e : (s.setGen g x).gens = s.gens.setIfInBounds g x := rfl
  rw [e] at hy
  obtain ⟨i, hi, rfl⟩ := Array.mem_iff_getElem.mp hy
  rw [Array.size_setIfInBounds] at hi
  rw [Array.getElem_setIfInBounds (by simpa using hi)]
  split
  · exact hx
  · exact h _ (Array.getElem_mem _)
theorem Inv.setG {pins : List (Addr × Obj)} {σ : L2.St} {H : Hp} {s : Shared} {g : Nat} {x : GenState} (I : Inv X pins σ H s) (hx : x.bare = true) : Inv X pins σ H (s.setGen g x) :=
  Inv.gensAny (t' := s.toks) I (bare_set I.bare hx)
/-- what the builtin gets from next(generator) -/
def Nxt (C : Cons S) (X : Cx) (fp : List Addr) (A : Around) (Q : VK) (gi n : Nat) (s : Shared) (r : Option Value) (s1 : Shared) : Prop := match r with
  | none => ∃ (a : S) (pins : List (Addr × Obj)) (σ : L2.St) (H : Hp), C.Lk a pins ∧ (∀ p ∈ pins, s.heap.get? p.1 = some p.2) ∧ Inv X pins σ H s1 ∧ Q (C.fin a) H
  | some v => ∃ (a : S) (pins : List (Addr × Obj)) (y : V) (σ : L2.St) (H : Hp) (r : S ⊕ V), C.Lk a pins ∧ (∀ p ∈ pins, s.heap.get? p.1 = some p.2) ∧ Inv X pins σ H s1 ∧ RelV y v ∧ C.take a y = some r ∧
    (match r with
      | .inr z => Q z H
      | .inl a' => ∀ (s2 : Shared) (pins2 : List (Addr × Obj)), C.Lk a' pins2 → Inv X pins2 σ H s2 → s2.gens = s1.gens → (∀ b ∈ fp, ∀ o, s1.heap.get? b = some o → s2.heap.get? b = some o) → ∃ m, m < n ∧ GAt C X fp A Q gi m a' s2)
theorem gx_next {A0 : Around} {Q : VK} {ga : Addr} {gi n : Nat} {a : S} {s : Shared} {E : Value → Shared → Prop} {og : Obj} (hh : A0.handled = none) (hroom : A0.depth < recursionLimit) (hpn : (ga, og) ∈ X.pn) (hog : ∀ h : Heap, h.get? ga = some og → h.IsGen ga gi)
    (G : GAt C X fp A0.in1 Q gi n a s) : wpAny (model X.prog X.w) A0 (pyNext (.ref ga)) (fun r s1 => Nxt C X fp A0.in1 Q gi n s r s1) E s := by
  obtain ⟨pins, σ, H, gs, hL, I, hgs, hgo⟩ := G
  have isg : ∀ {pp σ' H' s'}, Inv X pp σ' H' s' → s'.heap.IsGen ga gi := fun J => hog _ (J.pin (ga, og) (List.mem_append_left _ hpn)).1
  have hlt : gi < s.gens.size := by
    rcases Nat.lt_or_ge gi s.gens.size with h' | h'
    · exact h'
    · rw [Array.getElem?_eq_none h'] at hgs; cases hgs
  have I0 : Inv X pins σ H (s.setGen gi .running) := Inv.setG I rfl
  refine GenW.wpAny_gsz (n := gi + 1) hlt ?_
  refine wpAny_pyNext_genexpQ (P := gxR C X Q) hh I.nolimit hroom (isg I) hgs (hgo _ pins hL I0 fun b _ o e => e) (fun v s1 gs' hb hv hsz => ?_) (fun s1 hp h' hk hsz => ?_)
  · obtain ⟨a1, pins1, y, σ1, H1, r, hL1, h0, I1, ry, hr, hm⟩ := hv
    have hlt1 : gi < s1.gens.size := by
      have e : (s1.setGen gi gs').gens.size = s1.gens.size := by simp [Shared.setGen]
      rw [← e]
      exact hsz
    refine ⟨a1, pins1, y, σ1, H1, r, hL1, h0, Inv.setG I1 hb, ry, hr, ?_⟩
    cases r with
    | inr z => exact hm
    | inl a' =>
      intro s2 pins2 hL2 I2 hg2 hk2
      cases n with
      | zero => exact absurd (hm s2 pins2 hL2 I2 hk2) id
      | succ m =>
        refine ⟨m, Nat.lt_succ_self m, pins2, σ1, H1, gs', hL2, I2, ?_, fun s3 pins3 hL3 I3 hk3 => hm s3 pins3 hL3 I3 fun b hb o e => hk3 b hb o (hk2 b hb o e)⟩
        rw [hg2]
        show (s1.gens.setIfInBounds gi gs')[gi]? = some gs'
        simp [hlt1]
  · obtain ⟨a1, pins1, σ1, H1, hL1, h0, I1, hq⟩ := hp
    exact ⟨a1, pins1, σ1, H1, hL1, h0, Inv.kept (t' := s1.toks) (Inv.setG (x := .finished) I1 rfl) hk, hq⟩
end
/-! ### any, all -/
def cAny : Cons Unit := ⟨fun _ y => match y with | .bl true => some (.inr (.bl true)) | .bl false => some (.inl ()) | _ => none, fun _ => .bl false, fun _ pins => pins = []⟩
def cAll : Cons Unit := ⟨fun _ y => match y with | .bl false => some (.inr (.bl false)) | .bl true => some (.inl ()) | _ => none, fun _ => .bl true, fun _ pins => pins = []⟩
/-- the builtin's own list -/
abbrev sumObj (a : Int) (t : Tok) (c : Nat) : Obj := { cls := .type "list", dict := none, data := .seq #[.int a t] c, slots := #[] }
def cSum (S : Addr) : Cons Int := ⟨fun a y => match y with | .int i => some (.inl (a + i)) | _ => none, fun a => .int a, fun a pins => ∃ t c, pins = [(S, sumObj a t c)]⟩
section
variable {X : Cx} {fp : List Addr} {A : Around} {Q : VK} {ga : Addr} {gi : Nat} {og : Obj} {R : Result → Shared → Prop}
theorem any_gx (hh : A.handled = none) (hroom : A.depth < recursionLimit) (hpn : (ga, og) ∈ X.pn) (hog : ∀ h : Heap, h.get? ga = some og → h.IsGen ga gi)
    (hR : ∀ b s' σ H, Inv X [] σ H s' → Q (.bl b) H → R (.ok (.ret (.bool b))) s') : ∀ (n : Nat) (s : Shared), GAt cAny X fp A.in1.in1 Q gi n () s → codeAny (model X.prog X.w) A (.builtin "any.loop" ⟨[.ref ga], []⟩) R s := by
  intro n
  induction n using Nat.strongRecOn with
  | _ n ih =>
    intro s G
    refine codeAny_builtin F.entry_any_loop ?_
    rw [Around.under_plainId F.plain_any_loop _]
    show wpAny _ A.in1 (pyNext (.ref ga) >>= _) _ _ s
    refine wpAny_bind (wpAny_mono (gx_next (E := fun _ _ => False) hh hroom hpn hog G) (fun r s1 h1 => ?_) fun _ _ e => e.elim)
    cases r with
    | none =>
      obtain ⟨a, pins, σ, H, hL, h0, I, hq⟩ := h1
      cases hL
      refine wpAny_bind (wpAny_rule (wpAny_pure ?_))
      exact hR false s1 σ H I hq
    | some v =>
      obtain ⟨a, pins, y, σ, H, r, hL, h0, I, ry, hr, h1⟩ := h1
      cases hL
      cases y with
      | bl b =>
        cases ry
        refine wpAny_bind (wpAny_holding (wpAny_truthy_bool ?_))
        refine wpAny_bind (wpAny_letGo ?_)
        cases b with
        | true =>
          simp only [if_true]
          cases hr
          refine wpAny_bind (wpAny_rule (wpAny_pure ?_))
          exact hR true s1 σ H I h1
        | false =>
          simp only [Bool.false_eq_true, if_false]
          cases hr
          obtain ⟨m, hm, G'⟩ := h1 s1 [] rfl I rfl fun b _ o e => e
          exact wpAny_pure ⟨plainId_quiet F.plain_any_loop _, ih m hm _ G'⟩
      | _ => cases hr
theorem all_gx (hh : A.handled = none) (hroom : A.depth < recursionLimit) (hpn : (ga, og) ∈ X.pn) (hog : ∀ h : Heap, h.get? ga = some og → h.IsGen ga gi)
    (hR : ∀ b s' σ H, Inv X [] σ H s' → Q (.bl b) H → R (.ok (.ret (.bool b))) s') : ∀ (n : Nat) (s : Shared), GAt cAll X fp A.in1.in1 Q gi n () s → codeAny (model X.prog X.w) A (.builtin "all.loop" ⟨[.ref ga], []⟩) R s := by
  intro n
  induction n using Nat.strongRecOn with
  | _ n ih =>
    intro s G
    refine codeAny_builtin F.entry_all_loop ?_
    rw [Around.under_plainId F.plain_all_loop _]
    show wpAny _ A.in1 (pyNext (.ref ga) >>= _) _ _ s
    refine wpAny_bind (wpAny_mono (gx_next (E := fun _ _ => False) hh hroom hpn hog G) (fun r s1 h1 => ?_) fun _ _ e => e.elim)
    cases r with
    | none =>
      obtain ⟨a, pins, σ, H, hL, h0, I, hq⟩ := h1
      cases hL
      refine wpAny_bind (wpAny_rule (wpAny_pure ?_))
      exact hR true s1 σ H I hq
    | some v =>
      obtain ⟨a, pins, y, σ, H, r, hL, h0, I, ry, hr, h1⟩ := h1
      cases hL
      cases y with
      | bl b =>
        cases ry
        refine wpAny_bind (wpAny_holding (wpAny_truthy_bool ?_))
        refine wpAny_bind (wpAny_letGo ?_)
        cases b with
        | false =>
          simp only [Bool.false_eq_true, if_false]
          cases hr
          refine wpAny_bind (wpAny_rule (wpAny_pure ?_))
          exact hR false s1 σ H I h1
        | true =>
          simp only [if_true]
          cases hr
          obtain ⟨m, hm, G'⟩ := h1 s1 [] rfl I rfl fun b _ o e => e
          exact wpAny_pure ⟨plainId_quiet F.plain_all_loop _, ih m hm _ G'⟩
      | _ => cases hr
/-- our own list's record is written -/
theorem Inv.pinWrite {S : Addr} {o o' : Obj} {σ : L2.St} {H : Hp} {s : Shared} {h' : Heap} {t' : Nat} (I : Inv X [(S, o)] σ H s) (hb : Heap.SameBut S s.heap h') (hs : h'.get? S = some o') (hc : ∀ v, o'.data ≠ .cell v) (hS0 : X.s_0.heap.objs.size ≤ S) (hSc : ∀ x c, X.env.cells.lookup x = some c → c ≠ S) (hSp : ∀ p ∈ X.pn, p.1 ≠ S) :
    Inv X [(S, o')] σ H { s with heap := h', toks := t' } := by
  obtain ⟨e0, hn, hl, hf, _⟩ := I.pin (S, o) (List.mem_append_right _ List.mem_cons_self)
  have J : Inv X [] σ H s := I.pins_of fun p hp => by cases hp
  have k : ∀ b u, b ≠ S → s.heap.get? b = some u → h'.get? b = some u := fun b u h e => (hb.2 b h).trans e
  have J2 : Inv X [] σ H { s with heap := h', toks := t' } := J.turned k hn hl (.inr hS0) hSc (fun p hp => by rw [List.append_nil] at hp; exact hSp p hp)
  exact J2.pins_of fun p hp => by
    cases List.mem_singleton.mp hp
    exact ⟨hs, hn, hl, hf, hc⟩
theorem sum_gx {S : Addr} (hh : A.handled = none) (hroom : A.depth < recursionLimit) (hpn : (ga, og) ∈ X.pn) (hog : ∀ h : Heap, h.get? ga = some og → h.IsGen ga gi)
    (hS0 : X.s_0.heap.objs.size ≤ S) (hSc : ∀ x c, X.env.cells.lookup x = some c → c ≠ S) (hSp : ∀ p ∈ X.pn, p.1 ≠ S) (hSf : S ∉ fp)
    (hR : ∀ a t s' pins σ H, Inv X pins σ H s' → Q (.int a) H → R (.ok (.ret (.int a t))) s') : ∀ (n : Nat) (a : Int) (s : Shared) (st : Int), (st = 0 ∨ st = 2) → GAt (cSum S) X fp A.in1.in1 Q gi n a s →
      codeAny (model X.prog X.w) A (.builtin "sum.loop" ⟨[.ref ga, .ref S, rawInt st, rawInt 0], []⟩) R s := by
  intro n
  induction n using Nat.strongRecOn with
  | _ n ih =>
    intro a s st hst G
    obtain ⟨pins, σ, H, gs, ⟨tA, c, rfl⟩, I, hgs, hgo⟩ := _root_.id G
    have hS := (I.pin (S, sumObj a tA c) (List.mem_append_right _ List.mem_cons_self)).1
    refine codeAny_builtin F.entry_sum_loop ?_
    rw [Around.under_plainId F.plain_sum_loop _]
    show wpAny _ A.in1 (seqItems? (.ref S) >>= _) _ _ s
    refine wpAny_bind (wpAny_seqItems hS rfl ?_)
    show wpAny _ A.in1 (tryCatch (pyNext (.ref ga)) _ >>= _) _ _ s
    refine wpAny_bind (wpAny_tryCatch (wpAny_mono (gx_next (E := fun _ _ => False) hh hroom hpn hog G) (fun r s1 h1 => ?_) fun _ _ e => e.elim))
    cases r with
    | none =>
      obtain ⟨a1, pins1, σ1, H1, ⟨t1, c1, rfl⟩, h0, I1, hq⟩ := h1
      have e := h0 _ List.mem_cons_self
      rw [hS] at e
      cases e
      exact wpAny_pure (hR a tA s1 _ σ1 H1 I1 hq)
    | some v =>
      obtain ⟨a1, pins1, y, σ1, H1, r, ⟨t1, c1, rfl⟩, h0, I1, ry, hr, h1⟩ := h1
      have e := h0 _ List.mem_cons_self
      rw [hS] at e
      cases e
      have hS1 := (I1.pin (S, sumObj a tA c) (List.mem_append_right _ List.mem_cons_self)).1
      cases y with
      | int i =>
        obtain ⟨t, rfl⟩ := ry
        cases hr
        have again : ∀ (h' : Heap) (tk : Nat) (t' : Tok) (c' : Nat) (st' : Int), (st' = 0 ∨ st' = 2) → Heap.SameBut S s1.heap h' → h'.get? S = some (sumObj (a + i) t' c') → codeAny (model X.prog X.w) A (.builtin "sum.loop" ⟨[.ref ga, .ref S, rawInt st', rawInt 0], []⟩) R { s1 with heap := h', toks := tk } := by
          intro h' tk t' c' st' hst' hb hs
          have I2 := Inv.pinWrite (t' := tk) I1 hb hs (fun v q => by cases q) hS0 hSc hSp
          obtain ⟨m, hm, G'⟩ := h1 { s1 with heap := h', toks := tk } _ ⟨t', c', rfl⟩ I2 rfl fun b hb' o e => (hb.2 b fun z => hSf (z ▸ hb')).trans e
          exact ih m hm (a + i) _ st' hst' G'
        rcases hst with rfl | rfl
        · show wpAny _ A.in1 (if (_ : Bool) = true then (mkInt (a + i) >>= _) else _) _ _ _
          split
          · refine wpAny_bind (wpAny_mkInt ?_)
            show wpAny _ A.in1 (updateSeq S (fun _ => #[.int (a + i) s1.toks]) >>= _) _ _ _
            refine wpAny_bind ?_
            exact wpAny_updateSeq hS1 rfl (wpAny_pure ⟨plainId_quiet F.plain_sum_loop _, again _ _ s1.toks _ 0 (.inl rfl) (Heap.SameBut.update ..) (Heap.get?_update_self _ hS1 rfl)⟩)
          · refine wpAny_bind (wpAny_rule ?_)
            refine wpAny_bind (wpAny_attempt (wpAny_holding (wpAny_add_int ?_)))
            show wpAny _ A.in1 (updateSeq S (fun _ => #[.int (a + i) s1.toks]) >>= _) _ _ _
            refine wpAny_bind (wpAny_updateSeq hS1 rfl ?_)
            have hS₂ := Heap.get?_update_self (Obj.mapSeq fun _ => #[Value.int (a + i) s1.toks]) hS1 rfl
            refine wpAny_bind (wpAny_letGo ?_)
            exact wpAny_bind (wpAny_updateSeq hS₂ rfl (wpAny_pure ⟨plainId_quiet F.plain_sum_loop _, again _ _ s1.toks _ 2 (.inr rfl) ((Heap.SameBut.update ..).trans (Heap.SameBut.update ..)) (Heap.get?_update_self _ hS₂ rfl)⟩))
        · show wpAny _ A.in1 ((holding [Value.int i t] (binaryOp .Add (.int a tA) (.int i t))).attempt >>= _) _ _ _
          refine wpAny_bind (wpAny_attempt (wpAny_holding (wpAny_add_int ?_)))
          show wpAny _ A.in1 (updateSeq S (fun _ => #[.int (a + i) s1.toks]) >>= _) _ _ _
          refine wpAny_bind (wpAny_updateSeq hS1 rfl ?_)
          have hS₂ := Heap.get?_update_self (Obj.mapSeq fun _ => #[Value.int (a + i) s1.toks]) hS1 rfl
          refine wpAny_bind (wpAny_letGo ?_)
          exact wpAny_bind (wpAny_updateSeq hS₂ rfl (wpAny_pure ⟨plainId_quiet F.plain_sum_loop _, again _ _ s1.toks _ 2 (.inr rfl) ((Heap.SameBut.update ..).trans (Heap.SameBut.update ..)) (Heap.get?_update_self _ hS₂ rfl)⟩))
      | _ => cases hr
end
end LW

set_option Elab.async false
set_option linter.all false
set_option maxRecDepth 100000
set_option maxHeartbeats 4000000
/-! LH: any, all, sum of a generator expression. -/
namespace LW
open PySem PySem.Spec PyProof.Rows L2
open Sem (wp)
/-- the table at P has grown -/
def Grown (P : Addr) (H H' : Hp) : Prop := ∃ (ps more : Array Value), H P = some (.tbl ps) ∧ H' = upd H P (.tbl (ps ++ more)) ∧ TriplesOk (ps ++ more).toList
/-- the generator at ga, ready for a builtin, in the state s5 -/
def GReady {S : Type} (X : Cx) (pins : List (Addr × Obj)) (σ : L2.St) (take : S → V → Option (S ⊕ V)) (fin : S → V) (a0 : S) (Q : VK) (ga : Addr) (s5 : Shared) : Prop :=
  ∃ (Xg : Cx) (fp : List Addr) (og : Obj) (gi n : Nat) (σw : L2.St) (H2 : Hp) (gs : GenState), Xg.prog = X.prog ∧ Xg.w = X.w ∧ (ga, og) ∈ Xg.pn ∧ (∀ h : Heap, h.get? ga = some og → h.IsGen ga gi) ∧ Inv Xg [] σw H2 s5 ∧ (∀ b ∈ fp, b < s5.heap.objs.size) ∧ s5.gens[gi]? = some gs ∧
    (∀ (Lk : S → List (Addr × Obj) → Prop), (∀ a pins, Lk a pins → ∀ p ∈ pins, ∀ b ∈ fp, p.1 ≠ b) → ∀ (s6 : Shared) (pins' : List (Addr × Obj)), Lk a0 pins' → Inv Xg pins' σw H2 s6 → s6.gens[gi]? = some gs → (∀ b ∈ fp, ∀ o, s5.heap.get? b = some o → s6.heap.get? b = some o) →
      GAt ⟨take, fin, Lk⟩ Xg fp X.A.in1.in1 Q gi n a0 s6) ∧
    ∀ pins' σ' H' s', Inv Xg pins' σ' H' s' → Inv X pins σ H' s'
/-- the generator's turns, as they are read: the walked thing, the table's step, the turns -/
def tGx {S : Type} (P : Addr) (take : S → V → Option (S ⊕ V)) (fin : S → V) (a0 : S) (wi : TI) (g : TG) (tt : TT) (te : TE) (vs : List Nat) : TE := fun σ H Q => wi σ H fun J H1 => GxR.TabG H1 P ∧ ∀ H2, Grown P H1 H2 →
  ∃ W : Nat → Nat → S → Hp → Prop, (∃ m, W 0 m a0 H2) ∧ GTurns ⟨take, fin, fun _ _ => True⟩ J g tt te (wipe σ vs) vs Q W
abbrev GBlks (X : Cx) (k : Nat) (scope : Scope) (P : Cx → Prop) : Prop := ∀ (Ag : Around) (s : Shared) (H : Hp) (C : Addr) (cl : List (Str × Addr)) (code : Value) (fp : List Addr) (pn : List (Addr × Obj)), Room k Ag → P (gcx X Ag s H (genEnv scope cl C code builtinsNs X.env) fp pn)
section
variable {X : Cx} {pins : List (Addr × Obj)} {σ : L2.St} {H : Hp} {s : Shared} {S : Type} {take : S → V → Option (S ⊕ V)} {fin : S → V} {a0 : S}
theorem gen_made {c P : Addr} {elt iter tg : Expr} {ifs : List Expr} {gpos : Pos} {scope : Scope} {own : List (Str × Nat)} {k : Nat} {wi : TI} {g : TG} {tt : TT} {te : TE} {Q : VK} {Q' : Value → Shared → Prop}
    (hc : X.calm = true) (hN : X.N.Nodup) (hr : Room (k + 1) X.A) (TB : GxR.TabB X.base X.mg c P) (hcode : X.env.code = .ref c) (ok : GenB X.N X.env.scope scope own) (hi : PI X tg iter wi)
    (hg : GBlks X k scope fun X' => PG X' tg g) (ht : GBlks X k scope fun X' => PTs X' ifs tt) (he : GBlks X k scope fun X' => PE X' elt te)
    (hs : ∀ v, genFold iter X.env v = pure v) (I : Inv X pins σ H s) (h : tGx P take fin a0 wi g tt te (own.map (·.2)) σ H Q)
    (hQ : ∀ ga s5, GReady X pins σ take fin a0 Q ga s5 → Q' (.ref ga) s5) :
    wpAny (model X.prog X.w) X.A (eval (.GeneratorExp elt [⟨tg, iter, ifs, 0⟩] scope gpos) X.env) Q' X.xe s := by
  have hfree : ∀ y ∈ scope.names, y.2 = .free → ∃ c, X.env.cells.lookup y.1 = some c := fun y hy e => by
    rcases ok.free y hy e with k | k
    · exact I.ok.has _ (.inl k)
    · exact I.ok.has _ (.inr k)
  refine wpAny_GeneratorExp_make ok.co (closure_ok hfree) ok.cell ok.dot ok.kind (by have := hr.dp; omega) ?_ hs
  refine thn (hi.run pins s σ H _ I h) fun xv s1 hx => thn hx fun itv s2 h2 => ?_
  obtain ⟨it, fp, tn, J, H1, e, I1, Tn, st1, f1, ⟨ps, hP, ht3⟩, q⟩ := h2
  subst e
  have hPs : s2.heap.get? P = some { cls := .none, data := .fields ps } := I1.hok P _ hP
  have cd : PySem.W.CodeHd s2.heap c P := TB.code.keeps fun b u e => I1.bk b u e
  have nP : ∀ b, H1 b = none → b ≠ P := fun b e z => by rw [z, hP] at e; cases e
  have cont : ∀ (code : Value) (h3 : Heap) (tk : Nat) (ps' : Array Value), Heap.ExtBut P s2.heap h3 → s2.heap.objs.size ≤ h3.objs.size → h3.get? P = some { cls := .none, data := .fields ps' } → (∃ more, ps' = ps ++ more) → TriplesOk ps'.toList →
      wpAny (model X.prog X.w) X.A (builtinsFor X.env.globals X.env.builtins) (fun bi s₄ =>
        ∀ h', h'.Ns s₄.heap.objs.size (fun y => if y = (".0" : Str) then some (.ref it) else none) → Heap.SameBut s₄.heap.objs.size (s₄.heap.push { cls := .type "frame", data := .dict #[] }) h' →
          Q' (.ref h'.objs.size) { s₄ with
            gens := s₄.gens.push (.fresh (.compStart (.GeneratorExp elt [⟨tg, iter, ifs, 0⟩] scope gpos) 0 (.ref it) .none (genEnv scope (cloFrom X.env.cells scope.names []) s₄.heap.objs.size code bi X.env))),
            toks := s₄.toks + 1 + 1 + 1,
            heap := h'.push { cls := .type "generator", data := .fields #[.int s₄.gens.size 0, .str "<genexpr>" (s₄.toks + 1), .str (X.env.qual ++ "<genexpr>") (s₄.toks + 1 + 1)] } }) X.xe { s2 with heap := h3, toks := tk } := by
    intro code h3 tk ps' hx hsz hP3 hmore ht4
    obtain ⟨bm, ob, e1, e2, e3, e4, e5, e6, e7, e8⟩ := TB.bm
    have keep3 : ∀ b u, b ≠ P → s2.heap.get? b = some u → h3.get? b = some u := fun b u hb e => hx b u hb e
    refine wpAny_builtinsFor (m := X.mg) (by rw [I1.ok.glob]; exact (I1.mod.glob.keeps I1.bk).extBut hx TB.gP) e1 e2 (keep3 _ _ e4 (I1.bk _ _ e5)) e6 e7 e8 ?_
    intro h' hn' hs'
    obtain ⟨more, em⟩ := hmore
    subst em
    have I2 := GxR.inv_tab (more := more) (h' := h3) (g' := s2.gens) (d' := s2.drawn) (t' := tk) I1 hP keep3 hP3 I1.bare
    generalize hH2 : upd H1 P (.tbl (ps ++ more)) = H2 at I2
    obtain ⟨W, ⟨m0, w0⟩, turns⟩ := q H2 ⟨ps, more, hP, hH2.symm, ht4⟩
    have f2 : ∀ b ∈ fp, FpOk X pins H2 b ∧ b < h3.objs.size := fun b hb => by
      obtain ⟨o, eo, _⟩ := Tn.obj _ _ st1 b hb
      refine ⟨⟨?_, (f1 b hb).2⟩, Nat.lt_of_lt_of_le (Heap.lt_size eo) hsz⟩
      rw [← hH2, upd_ne (nP b (f1 b hb).1)]
      exact (f1 b hb).1
    have st2 : tn 0 h3 := Tn.keep _ _ _ st1 fun b hb o e => keep3 b o (nP b (f1 b hb).1) e
    generalize hs4 : ({ s2 with heap := h3, toks := tk } : Shared) = s4 at *
    have h4 : s4.heap = h3 := by rw [← hs4]
    rw [← h4] at f2 st2
    have hsz' : h'.objs.size = s4.heap.objs.size + 1 := by rw [hs'.1, Heap.size_push]
    have keep' : ∀ b o, s4.heap.get? b = some o → h'.get? b = some o := fun b o e => hs'.extBut b o (Nat.ne_of_lt (Heap.lt_size e)) (Heap.get?_push_of_some _ e)
    generalize hog : ({ cls := .type "generator", data := .fields #[.int s4.gens.size 0, .str "<genexpr>" (s4.toks + 1), .str (X.env.qual ++ "<genexpr>") (s4.toks + 1 + 1)] } : Obj) = og
    have keep5 : ∀ b o, s4.heap.get? b = some o → (h'.push og).get? b = some o := fun b o e => Heap.get?_push_of_some _ (keep' b o e)
    have gog : (h'.push og).get? (s4.heap.objs.size + 1) = some og := by
      rw [← hsz']
      exact Heap.get?_push_size _ (by rw [← hog]; rfl)
    let Ag := X.A.in1.in1.deeper (genEnv scope (cloFrom X.env.cells scope.names []) s4.heap.objs.size code builtinsNs X.env)
    have rAg : Room k Ag := ⟨hr.hd, by have := hr.dp; show X.A.depth + 1 + 3 * k + 5 < _; omega, by have := hr.un; show X.A.units + 1 + 1 + 3 + 16 * k + 200 < _; omega⟩
    have I5 := gen_start (fp := fp) (Ag := Ag) (code := code) (itv := .ref it) (h5 := h'.push og) (og := og) (tk := s4.toks + 1 + 1 + 1)
      (gs := s4.gens.push (.fresh (.compStart (.GeneratorExp elt [⟨tg, iter, ifs, 0⟩] scope gpos) 0 (.ref it) .none (genEnv scope (cloFrom X.env.cells scope.names []) s4.heap.objs.size code builtinsNs X.env))))
      I2 ok hN f2 hr.hd (by
        have e : X.A.frames = some X.stack := I2.ok.frames
        show Around.frames (X.A.in1.in1.deeper _) = _
        show (X.A.frames.map fun l => _ :: l) = _
        rw [e]; rfl) (hn'.push _) keep5 (by rw [Heap.size_push, hsz']) gog (by rw [← hog]; exact fun v z => by cases z) (I2.bare.push rfl)
    rw [hsz']
    refine hQ _ _ ?_
    generalize hcenv : genEnv scope (cloFrom X.env.cells scope.names []) s4.heap.objs.size code builtinsNs X.env = cenv at *
    have pg : PG (gcx X Ag s4 H2 cenv fp [(s4.heap.objs.size + 1, og)]) tg g := by rw [← hcenv]; exact hg _ _ _ _ _ _ _ _ rAg
    have pt : PTs (gcx X Ag s4 H2 cenv fp [(s4.heap.objs.size + 1, og)]) ifs tt := by rw [← hcenv]; exact ht _ _ _ _ _ _ _ _ rAg
    have pe : PE (gcx X Ag s4 H2 cenv fp [(s4.heap.objs.size + 1, og)]) elt te := by rw [← hcenv]; exact he _ _ _ _ _ _ _ _ rAg
    refine ⟨gcx X Ag s4 H2 cenv fp [(s4.heap.objs.size + 1, og)], fp, og, s4.gens.size, m0 + 1, _, H2, _, rfl, rfl, List.mem_cons_self, fun hh e => ⟨_, _, _, e, by rw [← hog], by rw [← hog], by rw [← hog]⟩, I5, fun b hb => ?_, Array.getElem?_push_size .., ?_, ?_⟩
    · show b < (h'.push og).objs.size
      rw [Heap.size_push, hsz']
      exact Nat.lt_succ_of_lt (Nat.lt_succ_of_lt (f2 b hb).2)
    · intro Lk hLk s6 pins6 hL6 I6 hg6 hk6
      refine ⟨pins6, _, H2, _, hL6, I6, hg6, fun s7 pins7 hL7 I7 hk7 => ?_⟩
      refine ⟨rfl, ?_⟩
      refine seg_gxS (X := gcx X Ag s4 H2 cenv fp [(s4.heap.objs.size + 1, og)]) (C := ⟨take, fin, Lk⟩) (W := W) (J := J) (tn := tn) rfl rfl rfl rfl rfl (by rw [← hcenv]) (by rw [← hcenv]; exact ok.co) Tn pg pt pe turns hLk (Nat.lt_succ_self m0) w0 hL7 (fun p hp => (I7.pin p (List.mem_append_right _ hp)).1) I7 (Tn.keep _ _ _ st2 fun b hb o e => hk7 b hb o (hk6 b hb o (keep5 b o e))) fun b hb => ?_
      have q := f2 b hb
      refine ⟨q.1.1, ?_, ?_, .inl hb, fun x cc e => (I7.ok.exf b hb).2 x cc e, fun p hp => ?_⟩
      · exact (I7.ok.exf b hb).1
      · exact I7.ok.exfs b hb
      · rw [List.append_nil] at hp
        have hp : p ∈ [(s4.heap.objs.size + 1, og)] := hp
        rw [List.mem_singleton] at hp
        subst hp
        show s4.heap.objs.size + 1 ≠ b
        exact fun z => Nat.lt_irrefl _ (Nat.lt_of_succ_lt (z ▸ q.2))
    · intro pins' σ' H' s' I6
      exact I2.call' (ch := fp) I6.os I6.base I6.hok I6.bare fun b hb => ⟨(f2 b hb).1.2.2.2.1, (f2 b hb).1.2.1, (f2 b hb).1.2.2.2.2.1, (f2 b hb).1.2.2.2.2.2⟩
  refine ⟨I1.nolimit, ?_⟩
  cases hf : codeAmong gpos ps.toList with
  | none =>
    refine wpAny_genexprCodeX hcode (cd.code hPs ht3) (cd.tab hPs) hf fun c' h' tk hx hge hlt hco' _ htab' _ => ?_
    obtain ⟨o1, vs, f1', tf, fl, tg', inF, tx, tt', op, _, _, _, _, _, _, _, _, _, htr, _⟩ := hco'
    exact cont _ h' tk _ hx (Nat.le_trans hge (Nat.le_of_lt hlt)) htab'.2 ⟨_, rfl⟩ htr
  | some cv =>
    refine wpAny_genexprCode_hit hcode (cd.code hPs ht3) hf ?_
    exact cont cv s2.heap s2.toks ps (Heap.ExtBut.refl _ _) (Nat.le_refl _) hPs ⟨#[], by simp⟩ ht3

theorem pe_anyG {c P : Addr} {elt iter tg : Expr} {ifs : List Expr} {p pos gpos : Pos} {scope : Scope} {own : List (Str × Nat)} {k : Nat} {wi : TI} {g : TG} {tt : TT} {te : TE}
    (hc : X.calm = true) (hN : X.N.Nodup) (hr : Room (k + 1) X.A) (hgl : Gl X "any") (hm : X.mg "any" = none) (TB : GxR.TabB X.base X.mg c P) (hcode : X.env.code = .ref c) (ok : GenB X.N X.env.scope scope own) (hi : PI X tg iter wi)
    (hg : GBlks X k scope fun X' => PG X' tg g) (ht : GBlks X k scope fun X' => PTs X' ifs tt) (he : GBlks X k scope fun X' => PE X' elt te) (hs : ∀ v, genFold iter X.env v = pure v)
    (hst : starEach [.GeneratorExp elt [⟨tg, iter, ifs, 0⟩] scope gpos] X.env = (false, eval (.GeneratorExp elt [⟨tg, iter, ifs, 0⟩] scope gpos) X.env) :: starEach [] X.env := by rfl) :
    PE X (.Call (.Name "any" p) [.GeneratorExp elt [⟨tg, iter, ifs, 0⟩] scope gpos] [] pos) (tGx P cAny.take cAny.fin () wi g tt te (own.map (·.2))) := by
  refine ⟨fun pins s σ H Q I h => ?_⟩
  refine wpAny_Call_Name_kw (ld_blt I hgl hm boot_any ?_)
  refine PyProof.Rows.callWith_builtin1 ?_ hst (by rfl)
  rw [hst]
  show wpAny _ _ (spliced ((false, eval (.GeneratorExp elt [⟨tg, iter, ifs, 0⟩] scope gpos) X.env) :: backTo pos (starEach [] X.env))) _ _ s
  refine Calls.spliced_cons (gen_made hc hN hr TB hcode ok hi hg ht he hs I h fun ga s5 hG => ?_)
  obtain ⟨Xg, fp, og, gi, n, σw, H2, gs, hXp, hXw, hpn, hog, I5, hfp, hgs, hgo, back⟩ := hG
  refine Calls.spliced_nil ?_
  refine call_function_tree F.kind_any F.plain_any F.entry_any (F.args_any1 _) ?_
  unfold Builtin.«any»
  refine wpAny_bind (m := oneArg "any" _) (wpAny_pure ?_)
  have isg : s5.heap.IsGen ga gi := hog _ (I5.pin (ga, og) (List.mem_append_left _ hpn)).1
  refine wpAny_bind (wpAny_pyIter_gen isg ?_)
  have G0 := hgo cAny.Lk (fun a pins h p hp => by cases h; cases hp) s5 [] rfl I5 hgs fun b _ o e => e
  have loop := any_gx (X := Xg) (A := X.A) (R := fun r s' => ∃ b σ' H', r = .ok (.ret (.bool b)) ∧ L2.Inv Xg [] σ' H' s' ∧ Q (.bl b) H') hr.hd (by have := hr.dp; omega) hpn hog (fun b s' σ' H' I' q => ⟨b, σ', H', rfl, I', q⟩) n s5 G0
  rw [hXp, hXw] at loop
  refine wpAny_pure ⟨plainId_quiet F.plain_any_loop _, codeAny_mono loop fun r s' h => ?_⟩
  obtain ⟨b, σ', H', rfl, I', q⟩ := h
  exact ⟨.bl b, H', back _ _ _ _ I', rfl, q⟩
theorem pe_allG {c P : Addr} {elt iter tg : Expr} {ifs : List Expr} {p pos gpos : Pos} {scope : Scope} {own : List (Str × Nat)} {k : Nat} {wi : TI} {g : TG} {tt : TT} {te : TE}
    (hc : X.calm = true) (hN : X.N.Nodup) (hr : Room (k + 1) X.A) (hgl : Gl X "all") (hm : X.mg "all" = none) (TB : GxR.TabB X.base X.mg c P) (hcode : X.env.code = .ref c) (ok : GenB X.N X.env.scope scope own) (hi : PI X tg iter wi)
    (hg : GBlks X k scope fun X' => PG X' tg g) (ht : GBlks X k scope fun X' => PTs X' ifs tt) (he : GBlks X k scope fun X' => PE X' elt te) (hs : ∀ v, genFold iter X.env v = pure v)
    (hst : starEach [.GeneratorExp elt [⟨tg, iter, ifs, 0⟩] scope gpos] X.env = (false, eval (.GeneratorExp elt [⟨tg, iter, ifs, 0⟩] scope gpos) X.env) :: starEach [] X.env := by rfl) :
    PE X (.Call (.Name "all" p) [.GeneratorExp elt [⟨tg, iter, ifs, 0⟩] scope gpos] [] pos) (tGx P cAll.take cAll.fin () wi g tt te (own.map (·.2))) := by
  refine ⟨fun pins s σ H Q I h => ?_⟩
  refine wpAny_Call_Name_kw (ld_blt I hgl hm (u := .builtin "all") (by decide +kernel) ?_)
  refine PyProof.Rows.callWith_builtin1 ?_ hst (by rfl)
  rw [hst]
  show wpAny _ _ (spliced ((false, eval (.GeneratorExp elt [⟨tg, iter, ifs, 0⟩] scope gpos) X.env) :: backTo pos (starEach [] X.env))) _ _ s
  refine Calls.spliced_cons (gen_made hc hN hr TB hcode ok hi hg ht he hs I h fun ga s5 hG => ?_)
  obtain ⟨Xg, fp, og, gi, n, σw, H2, gs, hXp, hXw, hpn, hog, I5, hfp, hgs, hgo, back⟩ := hG
  refine Calls.spliced_nil ?_
  refine call_function_tree F.kind_all F.plain_all F.entry_all (F.args_all1 _) ?_
  unfold Builtin.«all»
  refine wpAny_bind (m := oneArg "all" _) (wpAny_pure ?_)
  have isg : s5.heap.IsGen ga gi := hog _ (I5.pin (ga, og) (List.mem_append_left _ hpn)).1
  refine wpAny_bind (wpAny_pyIter_gen isg ?_)
  have G0 := hgo cAll.Lk (fun a pins h p hp => by cases h; cases hp) s5 [] rfl I5 hgs fun b _ o e => e
  have loop := all_gx (X := Xg) (A := X.A) (R := fun r s' => ∃ b σ' H', r = .ok (.ret (.bool b)) ∧ L2.Inv Xg [] σ' H' s' ∧ Q (.bl b) H') hr.hd (by have := hr.dp; omega) hpn hog (fun b s' σ' H' I' q => ⟨b, σ', H', rfl, I', q⟩) n s5 G0
  rw [hXp, hXw] at loop
  refine wpAny_pure ⟨plainId_quiet F.plain_all_loop _, codeAny_mono loop fun r s' h => ?_⟩
  obtain ⟨b, σ', H', rfl, I', q⟩ := h
  exact ⟨.bl b, H', back _ _ _ _ I', rfl, q⟩
theorem pe_sumG {c P : Addr} {elt iter tg : Expr} {ifs : List Expr} {p pos gpos : Pos} {scope : Scope} {own : List (Str × Nat)} {k : Nat} {wi : TI} {g : TG} {tt : TT} {te : TE}
    (hc : X.calm = true) (hN : X.N.Nodup) (hr : Room (k + 1) X.A) (hgl : Gl X "sum") (hm : X.mg "sum" = none) (TB : GxR.TabB X.base X.mg c P) (hcode : X.env.code = .ref c) (ok : GenB X.N X.env.scope scope own) (hi : PI X tg iter wi)
    (hg : GBlks X k scope fun X' => PG X' tg g) (ht : GBlks X k scope fun X' => PTs X' ifs tt) (he : GBlks X k scope fun X' => PE X' elt te) (hs : ∀ v, genFold iter X.env v = pure v)
    (hst : starEach [.GeneratorExp elt [⟨tg, iter, ifs, 0⟩] scope gpos] X.env = (false, eval (.GeneratorExp elt [⟨tg, iter, ifs, 0⟩] scope gpos) X.env) :: starEach [] X.env := by rfl) :
    PE X (.Call (.Name "sum" p) [.GeneratorExp elt [⟨tg, iter, ifs, 0⟩] scope gpos] [] pos) (tGx P (cSum 0).take (cSum 0).fin (0 : Int) wi g tt te (own.map (·.2))) := by
  refine ⟨fun pins s σ H Q I h => ?_⟩
  refine wpAny_Call_Name_kw (ld_blt I hgl hm (u := .builtin "sum") (by decide +kernel) ?_)
  refine PyProof.Rows.callWith_builtin1 ?_ hst (by rfl)
  rw [hst]
  show wpAny _ _ (spliced ((false, eval (.GeneratorExp elt [⟨tg, iter, ifs, 0⟩] scope gpos) X.env) :: backTo pos (starEach [] X.env))) _ _ s
  refine Calls.spliced_cons (gen_made hc hN hr TB hcode ok hi hg ht he hs I h fun ga s5 hG => ?_)
  obtain ⟨Xg, fp, og, gi, n, σw, H2, gs, hXp, hXw, hpn, hog, I5, hfp, hgs, hgo, back⟩ := hG
  refine Calls.spliced_nil ?_
  refine call_function_tree F.kind_sum F.plain_sum F.entry_sum (F.args_sum1 _) ?_
  have isg : s5.heap.IsGen ga gi := hog _ (I5.pin (ga, og) (List.mem_append_left _ hpn)).1
  unfold Builtin.«sum»
  simp only [List.length_cons, List.length_nil]
  rw [if_neg (by decide)]
  refine wpAny_bind (wpAny_of_eq (show Builtin.Builtins.bindParams "sum" ["start"] 0 { } = pure [none] from rfl) ?_)
  refine wpAny_bind (wpAny_pyIter_gen isg ?_)
  refine wpAny_bind (wpAny_mkInt ?_)
  refine wpAny_bind (wpAny_pure ?_)
  simp only [List.forIn_cons, List.forIn_nil]
  refine wpAny_bind (wpAny_bind (wpAny_bind (wpAny_isInstance (T := "int") (b := false) (typeIs_int _ _ _) PySem.sub_int_str ?_)))
  simp only [Bool.false_eq_true, if_false]
  refine wpAny_pure (wpAny_bind (wpAny_bind (wpAny_isInstance (T := "int") (b := false) (typeIs_int _ _ _) PySem.sub_int_bytes ?_)))
  simp only [Bool.false_eq_true, if_false]
  refine wpAny_pure (wpAny_bind (wpAny_bind (wpAny_isInstance (T := "int") (b := false) (typeIs_int _ _ _) PySem.sub_int_bytearray ?_)))
  simp only [Bool.false_eq_true, if_false]
  refine wpAny_pure (wpAny_pure ?_)
  refine wpAny_bind (wpAny_newObj_type ?_)
  have nS : H2 s5.heap.objs.size = none := I5.hok.fresh (Nat.le_refl _)
  obtain ⟨q0, q1, q2, q3, q4, q5⟩ := I5.fpOk (Nat.le_refl _) nS
  have hS : (s5.heap.push (sumObj 0 s5.toks 0)).get? s5.heap.objs.size = some (sumObj 0 s5.toks 0) := Heap.get?_push_size _ rfl
  have J0 : L2.Inv Xg [] σw H2 { s5 with heap := s5.heap.push (sumObj 0 s5.toks 0), toks := s5.toks + 1 } := I5.kept fun b o e => Heap.get?_push_of_some _ e
  have J : L2.Inv Xg [(s5.heap.objs.size, sumObj 0 s5.toks 0)] σw H2 { s5 with heap := s5.heap.push (sumObj 0 s5.toks 0), toks := s5.toks + 1 } := J0.pins_of fun p hp => by
    cases List.mem_singleton.mp hp
    exact ⟨hS, nS, q1, q2, fun v z => by cases z⟩
  have hSf : s5.heap.objs.size ∉ fp := fun hm => Nat.lt_irrefl _ (hfp _ hm)
  have G0 := hgo (cSum s5.heap.objs.size).Lk (fun a pins h p hp b hb => by
    obtain ⟨t, c, rfl⟩ := h
    cases List.mem_singleton.mp hp
    exact fun z => hSf (by have z : s5.heap.objs.size = b := z; rw [z]; exact hb)) _ _ ⟨_, _, rfl⟩ J hgs fun b _ o e => Heap.get?_push_of_some _ e
  have loop := sum_gx (X := Xg) (A := X.A) (S := s5.heap.objs.size) (R := fun r s' => ∃ a t pins' σ' H', r = .ok (.ret (.int a t)) ∧ L2.Inv Xg pins' σ' H' s' ∧ Q (.int a) H') hr.hd (by have := hr.dp; omega) hpn hog (I5.sz) (fun x cc e => q4 x cc e) (fun p hp => q5 p (List.mem_append_left _ hp)) hSf
    (fun a t s' pins' σ' H' I' q => ⟨a, t, pins', σ', H', rfl, I', q⟩) n 0 _ 0 (.inl rfl) G0
  rw [hXp, hXw] at loop
  refine wpAny_pure ⟨plainId_quiet F.plain_sum_loop _, codeAny_mono loop fun r s' h => ?_⟩
  obtain ⟨a, t, pins', σ', H', rfl, I', q⟩ := h
  exact ⟨.int a, H', back _ _ _ _ I', ⟨t, rfl⟩, q⟩
end

theorem Grown.ok {w : World} {T : List Addr} {G H H' : Hp} {M : Mem} {P : Addr} (s : HS w T G H M) (g : Grown P H H') : HS w T G H' M ∧ Step G H M G H' M := by
  obtain ⟨ps, more, e, rfl, ht⟩ := g
  have nM : P ∉ adr M := fun h => by
    obtain ⟨ob, q⟩ := mem_adr h
    obtain ⟨o, eo, _, nt, _⟩ := (s.mem P ob q).2.there
    rw [e] at eo
    exact nt ps (Option.some.inj eo).symm
  refine ⟨⟨fun a o q => ?_, s.pur, s.nd, fun p ob q => ?_, fun P' hP' => ?_⟩, ⟨fun _ _ q => q, fun _ _ q => .inl q, fun a o q n => ?_, fun _ h => .inl h⟩⟩
  · by_cases z : a = P
    · subst z
      have := s.sub a o q
      rw [e] at this
      cases this
      exact absurd q (s.pur a ps)
    · rw [upd_ne z]
      exact s.sub a o q
  · obtain ⟨h1, h2⟩ := s.mem p ob q
    exact ⟨h1, h2.mono (fun _ _ q => q) (upd_ne fun z => nM (z ▸ adr_mem q))⟩
  · by_cases z : P' = P
    · subst z
      exact ⟨_, upd_same, ht⟩
    · obtain ⟨qs, h1, h2⟩ := s.tab P' hP'
      exact ⟨qs, by rw [upd_ne z]; exact h1, h2⟩
  · by_cases z : a = P
    · subst z
      rw [e] at q
      cases q
      exact .inr ⟨ps, more, rfl, upd_same⟩
    · rw [upd_ne z]
      exact .inl q
section
variable {X : Cx} {T : List Addr} {ρ : List (Option D)} {M M1 : Mem} {d : D} {elt iter tg : Expr} {ifs : List Expr} {pos gpos p tpos : Pos} {ds : List D} {ok : Mem → Prop} {S : Type} {take : S → V → Option (S ⊕ V)} {fin : S → V}
theorem gx_in {w : World} {P : Addr} {g : TG} {is : List Nat} {unp : D → Option (List D)} {vs : List Nat} {kp : Nat → Bool} {el : Nat → D} (st : Nat → S) (good : Nat → Prop) (done : Nat → Option V) (hP : P ∈ T) (ht : Tgt w g is unp) (hv : ∀ i ∈ is, i ∈ vs)
    (hok : ok M1) (hu : ∀ (i : Nat) (d : D), ds[i]? = some d → ∃ us, unp d = some us) (g0 : good 0)
    (hskip : ∀ i, i < ds.length → kp i = false → good i → st (i + 1) = st i ∧ good (i + 1))
    (htake : ∀ i y G, i < ds.length → kp i = true → good i → Dt w G y (el i) → match done i with
      | some z => take (st i) y = some (.inr z) ∧ ∀ G, Dt w G z d
      | none => take (st i) y = some (.inl (st (i + 1))) ∧ good (i + 1))
    (hfin : good ds.length → ∀ G, Dt w G (fin (st ds.length)) d) (σ : L2.St) (H : Hp) (Q : VK) (h : tE w T ρ M d M1 σ H Q) :
    tGx P take fin (st 0) (tI w T ρ M ds M1 ok) g (tLT w T (wipeD ρ vs) is unp ds (fun _ => M1) (fun _ => M1) kp) (tLE w T (wipeD ρ vs) is unp ds (fun _ => M1) (fun _ => M1) kp el) vs σ H Q := by
  obtain ⟨G, hs, sl, k⟩ := h
  refine ⟨G, hs, sl, fun J G1 H1 st1 hs1 it => ⟨hs1.tab P hP, fun H2 hg => ?_⟩⟩
  obtain ⟨hs2, st2⟩ := hg.ok hs1
  refine ⟨fun i m a H' => m = ds.length - i ∧ i ≤ ds.length ∧ a = st i ∧ good i ∧ ∃ G', Step G1 H1 M1 G' H' M1 ∧ HS w T G' H' M1, ⟨_, rfl, Nat.zero_le _, rfl, g0, G1, st2, hs2⟩, ?_⟩
  rintro i m a H' ⟨rfl, hle, rfl, hgd, G', st', hs'⟩
  by_cases hlt : i < ds.length
  · refine .inr ⟨it.go i G' H' M1 hlt st' hs' hok, fun a' H2' => ∃ m', m' < ds.length - i ∧ (m' = ds.length - (i + 1) ∧ i + 1 ≤ ds.length ∧ a' = st (i + 1) ∧ good (i + 1) ∧ ∃ G2, Step G1 H1 M1 G2 H2' M1 ∧ HS w T G2 H2' M1), fun a' H2' q => q, fun x H2' hy => ?_⟩
    have hd' : ds[i]? = some ds[i] := List.getElem?_eq_getElem hlt
    obtain ⟨us, hus⟩ := hu i _ hd'
    obtain ⟨G3, st3, hs3, r⟩ := it.yld i G' H' M1 x H2' _ st' hs' hok hd' hy
    refine ht.ok T x (L2.wipe σ vs) G3 H2' M1 _ _ us hs3 r hus fun σ3 hsl3 hw => ⟨?_, (i, ds[i], us), ⟨hd', hus⟩, G3, hs3, hsl3 _ (((sl.up st1.up).up (st'.up)).up st3.up |>.wipe vs), fun G4 H4 st4 hs4 => ?_⟩
    · rw [hw vs hv]
      exact wipe_wipe fun _ h => h
    · have sl4 : SL w G4 σ3 (setsD (wipeD ρ vs) is us) := (hsl3 _ (((sl.up st1.up).up (st'.up)).up st3.up |>.wipe vs)).up st4.up
      cases hk : kp i with
      | false =>
        dsimp only
        rw [if_neg Bool.false_ne_true]
        obtain ⟨e1, e2⟩ := hskip i hlt hk hgd
        exact ⟨_, by omega, rfl, hlt, e1.symm, e2, G4, (st'.trans st3).trans st4, hs4⟩
      | true =>
        dsimp only
        rw [if_pos rfl]
        refine ⟨(i, ds[i], us), ⟨hd', hus, hk⟩, G4, hs4, sl4, fun y G5 H5 st5 hs5 ry => ?_⟩
        have q := htake i y G5 hlt hk hgd ry
        cases hdn : done i with
        | some z =>
          rw [hdn] at q
          exact ⟨_, q.1, k z G5 H5 ((((st1.trans st').trans st3).trans st4).trans st5) hs5 (q.2 _)⟩
        | none =>
          rw [hdn] at q
          exact ⟨_, q.1, _, by omega, rfl, hlt, rfl, q.2, G5, ((st'.trans st3).trans st4).trans st5, hs5⟩
  · have e : i = ds.length := Nat.le_antisymm hle (Nat.le_of_not_lt hlt)
    subst e
    exact .inl ⟨it.stop G' H' M1 st' hs' hok, k _ G' H' (st1.trans st') hs' (hfin hgd G')⟩
/-- the facts of a def for its generator expressions -/
structure GK (X : Cx) (T : List Addr) (k : Nat) : Prop where
  ex : ∃ c P, GxR.TabB X.base X.mg c P ∧ X.env.code = .ref c ∧ P ∈ T
  hr : Room (k + 1) X.A
  calm : X.calm = true
  nd : X.N.Nodup
variable {g : TG} {is : List Nat} {unp : D → Option (List D)} {own : List (Str × Nat)} {k : Nat} {scope : Scope} {α : Type} {xs : List α} {enc : α → D} {us : α → List D} {kp el : α → Bool} {en : α → Int}
/-- the typed turns -/
structure GTy (ds : List D) (xs : List α) (enc : α → D) (unp : D → Option (List D)) (us : α → List D) : Prop where
  eq : ds = xs.map enc
  un : ∀ x, unp (enc x) = some (us x)
theorem GTy.at_ (t : GTy ds xs enc unp us) {i : Nat} {d : D} {u : List D} (h : ds[i]? = some d) (hu : unp d = some u) : ∃ x, xs[i]? = some x ∧ x ∈ xs ∧ u = us x := by
  rw [t.eq, List.getElem?_map] at h
  cases e : xs[i]? with
  | none => rw [e] at h; cases h
  | some x =>
    rw [e] at h
    cases h
    rw [t.un] at hu
    cases hu
    exact ⟨x, rfl, List.mem_of_getElem? e, rfl⟩
theorem GTy.len (t : GTy ds xs enc unp us) : ds.length = xs.length := by rw [t.eq, List.length_map]
theorem GTy.hu (t : GTy ds xs enc unp us) (i : Nat) (d : D) (h : ds[i]? = some d) : ∃ u, unp d = some u := by
  rw [t.eq, List.getElem?_map] at h
  cases e : xs[i]? with
  | none => rw [e] at h; cases h
  | some x => rw [e] at h; cases h; exact ⟨_, t.un x⟩
def atB (xs : List α) (f : α → Bool) (i : Nat) : Bool := match xs[i]? with
  | some x => f x
  | none => false
theorem atB_some {xs : List α} {f : α → Bool} {i : Nat} {x : α} (h : xs[i]? = some x) : atB xs f i = f x := by unfold atB; rw [h]
theorem gtt {kb : Nat} (t : GTy ds xs enc unp us) (h : ∀ x ∈ xs, GBlks X kb scope fun X' => PDTs X' T (setsD (wipeD ρ (own.map (·.2))) is (us x)) M1 ifs (kp x) M1) :
    GBlks X kb scope fun X' => PTs X' ifs (tLT X.w T (wipeD ρ (own.map (·.2))) is unp ds (fun _ => M1) (fun _ => M1) (atB xs kp)) := fun Ag s H C cl code fp pn hr => lt_in (X' := gcx X Ag s H (genEnv scope cl C code builtinsNs X.env) fp pn) fun i d u h1 h2 => by
  obtain ⟨x, e1, e2, rfl⟩ := t.at_ h1 h2
  rw [atB_some e1]
  exact h x e2 Ag s H C cl code fp pn hr
theorem gte {kb : Nat} {ed : α → D} {eld : Nat → D} (t : GTy ds xs enc unp us) (he : ∀ (i : Nat) x, xs[i]? = some x → eld i = ed x) (h : ∀ x ∈ xs, kp x = true → GBlks X kb scope fun X' => PD X' T (setsD (wipeD ρ (own.map (·.2))) is (us x)) M1 elt (ed x) M1) :
    GBlks X kb scope fun X' => PE X' elt (tLE X.w T (wipeD ρ (own.map (·.2))) is unp ds (fun _ => M1) (fun _ => M1) (atB xs kp) eld) := fun Ag s H C cl code fp pn hr => le_in (X' := gcx X Ag s H (genEnv scope cl C code builtinsNs X.env) fp pn) fun i d u h1 h2 h3 => by
  obtain ⟨x, e1, e2, rfl⟩ := t.at_ h1 h2
  rw [atB_some e1] at h3
  rw [he i x e1]
  exact h x e2 h3 Ag s H C cl code fp pn hr
theorem any_take {xs : List α} {f : α → Bool} {i : Nat} {x : α} (h : xs[i]? = some x) : (xs.take (i + 1)).any f = ((xs.take i).any f || f x) := by
  rw [List.take_add_one, h, List.any_append]
  simp
theorem all_take {xs : List α} {f : α → Bool} {i : Nat} {x : α} (h : xs[i]? = some x) : (xs.take (i + 1)).all f = ((xs.take i).all f && f x) := by
  rw [List.take_add_one, h, List.all_append]
  simp
theorem at_lt {xs : List α} {i : Nat} (h : i < xs.length) : ∃ x, xs[i]? = some x := ⟨_, List.getElem?_eq_getElem h⟩
theorem mem_take_any {xs : List α} {f : α → Bool} {i : Nat} {x : α} (h : xs[i]? = some x) (hf : f x = true) : xs.any f = true := List.any_eq_true.mpr ⟨x, List.mem_of_getElem? h, hf⟩
/-- any(..) -/
theorem pd_any (K : GK X T k) (hm : X.mg "any" = none) (hi : PDI X T ρ M tg iter ds M1 ok) (bk : GenB X.N X.env.scope scope own) (hg : GBlks X k scope fun X' => PG X' tg g) (ht : Tgt X.w g is unp) (hv : ∀ i ∈ is, i ∈ own.map (·.2)) (hok : ok M1) (t : GTy ds xs enc unp us)
    (htt : ∀ x ∈ xs, GBlks X k scope fun X' => PDTs X' T (setsD (wipeD ρ (own.map (·.2))) is (us x)) M1 ifs (kp x) M1)
    (hee : ∀ x ∈ xs, kp x = true → GBlks X k scope fun X' => PD X' T (setsD (wipeD ρ (own.map (·.2))) is (us x)) M1 elt (.bl (el x)) M1)
    (hgl : Gl X "any" := by rfl) (hs : ∀ v, genFold iter X.env v = pure v := by intro _; rfl)
    (hst : starEach [.GeneratorExp elt [⟨tg, iter, ifs, 0⟩] scope gpos] X.env = (false, eval (.GeneratorExp elt [⟨tg, iter, ifs, 0⟩] scope gpos) X.env) :: starEach [] X.env := by rfl) :
    PD X T ρ M (.Call (.Name "any" p) [.GeneratorExp elt [⟨tg, iter, ifs, 0⟩] scope gpos] [] pos) (.bl (xs.any fun x => kp x && el x)) M1 := by
  obtain ⟨c, P, TB, hcode, hP⟩ := K.ex
  refine (pe_anyG K.calm K.nd K.hr hgl hm TB hcode bk hi hg (gtt t htt) (gte (eld := fun i => .bl (atB xs el i)) t (fun i x h => by rw [atB_some h]) hee) hs hst).imp fun σ H Q h => ?_
  refine gx_in (S := Unit) (fun _ => ()) (fun i => (xs.take i).any (fun x => kp x && el x) = false) (fun i => if atB xs el i = true then some (.bl true) else none) hP ht hv hok t.hu rfl (fun i hi hk hgd => ⟨rfl, ?_⟩) (fun i y G hi hk hgd ry => ?_) (fun hgd G => ?_) σ H Q h
  · rw [t.len] at hi
    obtain ⟨x, hx⟩ := at_lt hi
    rw [atB_some hx] at hk
    show List.any _ _ = false
    rw [any_take hx, hgd, hk]
    rfl
  · rw [t.len] at hi
    obtain ⟨x, hx⟩ := at_lt hi
    rw [atB_some hx] at hk ry ⊢
    cases he : el x with
    | true =>
      rw [he] at ry
      cases ry
      refine ⟨rfl, fun G => ?_⟩
      rw [mem_take_any hx (f := fun x => kp x && el x) (by rw [hk, he]; rfl)]
      exact .bl true
    | false =>
      rw [he] at ry
      cases ry
      refine ⟨rfl, ?_⟩
      show List.any _ _ = false
      rw [any_take hx, hgd, hk, he]
      rfl
  · rw [t.len, List.take_length] at hgd
    rw [hgd]
    exact .bl false
theorem pd_all (K : GK X T k) (hm : X.mg "all" = none) (hi : PDI X T ρ M tg iter ds M1 ok) (bk : GenB X.N X.env.scope scope own) (hg : GBlks X k scope fun X' => PG X' tg g) (ht : Tgt X.w g is unp) (hv : ∀ i ∈ is, i ∈ own.map (·.2)) (hok : ok M1) (t : GTy ds xs enc unp us)
    (htt : ∀ x ∈ xs, GBlks X k scope fun X' => PDTs X' T (setsD (wipeD ρ (own.map (·.2))) is (us x)) M1 ifs (kp x) M1)
    (hee : ∀ x ∈ xs, kp x = true → GBlks X k scope fun X' => PD X' T (setsD (wipeD ρ (own.map (·.2))) is (us x)) M1 elt (.bl (el x)) M1)
    (hgl : Gl X "all" := by rfl) (hs : ∀ v, genFold iter X.env v = pure v := by intro _; rfl)
    (hst : starEach [.GeneratorExp elt [⟨tg, iter, ifs, 0⟩] scope gpos] X.env = (false, eval (.GeneratorExp elt [⟨tg, iter, ifs, 0⟩] scope gpos) X.env) :: starEach [] X.env := by rfl) :
    PD X T ρ M (.Call (.Name "all" p) [.GeneratorExp elt [⟨tg, iter, ifs, 0⟩] scope gpos] [] pos) (.bl (xs.all fun x => !kp x || el x)) M1 := by
  obtain ⟨c, P, TB, hcode, hP⟩ := K.ex
  refine (pe_allG K.calm K.nd K.hr hgl hm TB hcode bk hi hg (gtt t htt) (gte (eld := fun i => .bl (atB xs el i)) t (fun i x h => by rw [atB_some h]) hee) hs hst).imp fun σ H Q h => ?_
  refine gx_in (S := Unit) (fun _ => ()) (fun i => (xs.take i).all (fun x => !kp x || el x) = true) (fun i => if atB xs el i = true then none else some (.bl false)) hP ht hv hok t.hu rfl (fun i hi hk hgd => ⟨rfl, ?_⟩) (fun i y G hi hk hgd ry => ?_) (fun hgd G => ?_) σ H Q h
  · rw [t.len] at hi
    obtain ⟨x, hx⟩ := at_lt hi
    rw [atB_some hx] at hk
    show List.all _ _ = true
    rw [all_take hx, hgd, hk]
    rfl
  · rw [t.len] at hi
    obtain ⟨x, hx⟩ := at_lt hi
    rw [atB_some hx] at hk ry ⊢
    cases he : el x with
    | false =>
      rw [he] at ry
      cases ry
      refine ⟨rfl, fun G => ?_⟩
      have : xs.all (fun x => !kp x || el x) = false := by
        cases q : xs.all (fun x => !kp x || el x) with
        | false => rfl
        | true =>
          have := List.all_eq_true.mp q x (List.mem_of_getElem? hx)
          rw [hk, he] at this
          cases this
      rw [this]
      exact .bl false
    | true =>
      rw [he] at ry
      cases ry
      refine ⟨rfl, ?_⟩
      show List.all _ _ = true
      rw [all_take hx, hgd, hk, he]
      rfl
  · rw [t.len, List.take_length] at hgd
    rw [hgd]
    exact .bl true
/-- the sum of the kept ones -/
def sumIf (xs : List α) (kp : α → Bool) (en : α → Int) : Int := ((xs.filter kp).map en).sum
theorem sumIf_take {xs : List α} {i : Nat} {x : α} (h : xs[i]? = some x) : sumIf (xs.take (i + 1)) kp en = sumIf (xs.take i) kp en + (if kp x = true then en x else 0) := by
  unfold sumIf
  rw [List.take_add_one, h, List.filter_append, List.map_append, List.sum_append]
  cases e : kp x <;> simp [e]
def atI (xs : List α) (f : α → Int) (i : Nat) : Int := match xs[i]? with
  | some x => f x
  | none => 0
theorem atI_some {xs : List α} {f : α → Int} {i : Nat} {x : α} (h : xs[i]? = some x) : atI xs f i = f x := by unfold atI; rw [h]
theorem pd_sum (K : GK X T k) (hm : X.mg "sum" = none) (hi : PDI X T ρ M tg iter ds M1 ok) (bk : GenB X.N X.env.scope scope own) (hg : GBlks X k scope fun X' => PG X' tg g) (ht : Tgt X.w g is unp) (hv : ∀ i ∈ is, i ∈ own.map (·.2)) (hok : ok M1) (t : GTy ds xs enc unp us)
    (htt : ∀ x ∈ xs, GBlks X k scope fun X' => PDTs X' T (setsD (wipeD ρ (own.map (·.2))) is (us x)) M1 ifs (kp x) M1)
    (hee : ∀ x ∈ xs, kp x = true → GBlks X k scope fun X' => PD X' T (setsD (wipeD ρ (own.map (·.2))) is (us x)) M1 elt (.int (en x)) M1)
    (hgl : Gl X "sum" := by rfl) (hs : ∀ v, genFold iter X.env v = pure v := by intro _; rfl)
    (hst : starEach [.GeneratorExp elt [⟨tg, iter, ifs, 0⟩] scope gpos] X.env = (false, eval (.GeneratorExp elt [⟨tg, iter, ifs, 0⟩] scope gpos) X.env) :: starEach [] X.env := by rfl) :
    PD X T ρ M (.Call (.Name "sum" p) [.GeneratorExp elt [⟨tg, iter, ifs, 0⟩] scope gpos] [] pos) (.int (sumIf xs kp en)) M1 := by
  obtain ⟨c, P, TB, hcode, hP⟩ := K.ex
  refine (pe_sumG K.calm K.nd K.hr hgl hm TB hcode bk hi hg (gtt t htt) (gte (eld := fun i => .int (atI xs en i)) t (fun i x h => by rw [atI_some h]) hee) hs hst).imp fun σ H Q h => ?_
  refine gx_in (S := Int) (fun i => sumIf (xs.take i) kp en) (fun _ => True) (fun i => none) hP ht hv hok t.hu trivial (fun i hi hk hgd => ⟨?_, trivial⟩) (fun i y G hi hk hgd ry => ?_) (fun hgd G => ?_) σ H Q h
  · rw [t.len] at hi
    obtain ⟨x, hx⟩ := at_lt hi
    rw [atB_some hx] at hk
    rw [sumIf_take hx, hk]
    simp
  · rw [t.len] at hi
    obtain ⟨x, hx⟩ := at_lt hi
    rw [atB_some hx] at hk
    rw [atI_some hx] at ry
    cases ry
    refine ⟨?_, trivial⟩
    rw [sumIf_take hx, hk]
    rfl
  · rw [t.len, List.take_length]
    exact .int _
/-! typed list comprehensions -/
theorem given_ty {kp : α → Bool} {ed : α → D} (xs : List α) : ∀ {n : Nat}, n ≤ xs.length → given n (atB xs kp) (fun i => match xs[i]? with | some x => ed x | none => .non) = ((xs.take n).filter kp).map ed
  | 0, _ => rfl
  | n + 1, h => by
    obtain ⟨x, hx⟩ := at_lt (xs := xs) (i := n) h
    have ih := given_ty (kp := kp) (ed := ed) xs (n := n) (by omega)
    rw [List.take_add_one, hx, List.filter_append, List.map_append, ← ih]
    cases e : kp x with
    | true =>
      rw [given_yes (by rw [atB_some hx]; exact e)]
      simp [e, hx]
    | false =>
      rw [given_no (by rw [atB_some hx]; exact e)]
      simp [e]
theorem pd_lc {ed : α → D} (hi : PDI X T ρ M tg iter ds M1 ok) (hN : X.N.Nodup) (bk : BlkOk X.N X.env.scope scope own) (hg : Blks X scope fun X' => PG X' tg g) (ht : Tgt X.w g is unp) (hv : ∀ i ∈ is, i ∈ own.map (·.2)) (hok : ok M1) (t : GTy ds xs enc unp us) (hz : xs.length ≤ 16000000)
    (htt : ∀ x ∈ xs, Blks X scope fun X' => PDTs X' T (setsD (wipeD ρ (own.map (·.2))) is (us x)) M1 ifs (kp x) M1)
    (hee : ∀ x ∈ xs, kp x = true → Blks X scope fun X' => PD X' T (setsD (wipeD ρ (own.map (·.2))) is (us x)) M1 elt (ed x) M1)
    (hc : X.calm = true := by rfl) (hs : ∀ x, foldedSetIterable iter X.env x = pure x := by intro _; rfl) : PD X T ρ M (.ListComp elt [⟨tg, iter, ifs, 0⟩] scope pos) (.lst ((xs.filter kp).map ed)) M1 := by
  refine pd_cast (pd_lcI (Ms := fun _ => M1) (Mt := fun _ => M1) (kp := atB xs kp) (el := fun i => match xs[i]? with | some x => ed x | none => .non) hi hN bk hg ht hv rfl (fun _ _ => hok) t.hu (fun _ _ _ => rfl) (by rw [t.len]; exact hz) (fun i d u h1 h2 => ?_) (fun i d u h1 h2 h3 => ?_) hc hs) ?_
  · obtain ⟨x, e1, e2, rfl⟩ := t.at_ h1 h2
    rw [atB_some e1]
    exact htt x e2
  · obtain ⟨x, e1, e2, rfl⟩ := t.at_ h1 h2
    rw [atB_some e1] at h3
    rw [e1]
    exact hee x e2 h3
  · rw [t.len, given_ty xs (Nat.le_refl _), List.take_length]
theorem pb_setLc {ed : α → D} {rest : List Stmt} {Nx : List (Option D) → Mem → Prop} {Rt : D → Mem → Prop} (i : Nat) {y : Str} {py spos : Pos} (hi : PDI X T ρ M tg iter ds M1 ok) (hN : X.N.Nodup) (bk : BlkOk X.N X.env.scope scope own) (hg : Blks X scope fun X' => PG X' tg g) (ht : Tgt X.w g is unp) (hv : ∀ i ∈ is, i ∈ own.map (·.2)) (hok : ok M1) (t : GTy ds xs enc unp us) (hz : xs.length ≤ 16000000)
    (htt : ∀ x ∈ xs, Blks X scope fun X' => PDTs X' T (setsD (wipeD ρ (own.map (·.2))) is (us x)) M1 ifs (kp x) M1)
    (hee : ∀ x ∈ xs, kp x = true → Blks X scope fun X' => PD X' T (setsD (wipeD ρ (own.map (·.2))) is (us x)) M1 elt (ed x) M1)
    (k : PB X T (ρ.set i (some (.lst ((xs.filter kp).map ed)))) M1 rest Nx Rt)
    (hy : X.N[i]? = some y := by rfl) (hyl : X.env.scope.names.lookup y = some .local := by rfl) (hsw : swapsWith (.ListComp elt [⟨tg, iter, ifs, 0⟩] scope pos) (some (.Name y py)) spos.line X.env = pure true := by exact sw_true rfl rfl rfl (by decide +kernel))
    (hc : X.calm = true := by rfl) (hs : ∀ x, foldedSetIterable iter X.env x = pure x := by intro _; rfl) : PB X T ρ M (.Assign [.Name y py] (.ListComp elt [⟨tg, iter, ifs, 0⟩] scope pos) spos :: rest) Nx Rt := by
  refine pb_setLcI (Ms := fun _ => M1) (Mt := fun _ => M1) (kp := atB xs kp) (el := fun i => match xs[i]? with | some x => ed x | none => .non) i hi hN bk hg ht hv rfl (fun _ _ => hok) t.hu (fun _ _ _ => rfl) (by rw [t.len]; exact hz) (fun i d u h1 h2 => ?_) (fun i d u h1 h2 h3 => ?_) ?_ hy hyl hsw hc hs
  · obtain ⟨x, e1, e2, rfl⟩ := t.at_ h1 h2
    rw [atB_some e1]
    exact htt x e2
  · obtain ⟨x, e1, e2, rfl⟩ := t.at_ h1 h2
    rw [atB_some e1] at h3
    rw [e1]
    exact hee x e2 h3
  · rw [t.len, given_ty xs (Nat.le_refl _), List.take_length]
    exact k
/-- everything is kept -/
theorem filter_yes {l : List α} : l.filter (fun _ => true) = l := List.filter_eq_self.mpr fun _ _ => rfl
end
end LW

set_option Elab.async false
set_option linter.all false
set_option maxRecDepth 100000
set_option maxHeartbeats 4000000
/-! LI: stores, methods of lists, == of data, in. -/
namespace LW
open PySem PySem.Spec PyProof.Rows L2
section
variable {X : Cx} {T : List Addr} {ρ ρ' : List (Option D)} {M M1 M2 M3 : Mem} {d da db dc : D} {a b c e o v : Expr} {es : List Expr} {pos tpos p : Pos} {ds : List D} {R R' : D → Mem → Prop}
  {rest : List Stmt} {Nx : List (Option D) → Mem → Prop} {Rt : D → Mem → Prop}
/-! ### fields -/
theorem pb1_fldR {C q : Addr} {f : Str} {j : Nat} (hv : PDR X T ρ M v R) (ho : ∀ m, PD X T ρ m o (.ref q) m) (hc : Cls X.K C) (hn : NoAttr X.K C f)
    (k : ∀ d m, R d m → ∃ fs, m[j]? = some (some (q, .obj C fs)) ∧ fs.length < 1000 ∧ Nx ρ (m.set j (some (q, .obj C (putD f d fs)))))
    (hs : swapsWith v (some (.Attribute o f tpos)) pos.line X.env = pure false := by rfl) : PB1 X T ρ M (.Assign [.Attribute o f tpos] v pos) Nx Rt := by
  refine PS.imp (ps_fld (ta := fun σ H Q => ∃ m, tE X.w T ρ m (.ref q) m σ H Q) (PE.ex ho) hv hs) fun Dd σ H ⟨G, hs', sl, k1, k2⟩ => ⟨G, hs', sl, fun y G1 H1 d m r st1 hs1 rd => ?_⟩
  refine ⟨m, G1, hs1, sl.up st1.up, fun x G2 H2 st2 hs2 rx => ?_⟩
  cases rx
  obtain ⟨fs, hj, hl, hk⟩ := k d m r
  obtain ⟨g0, dx, ws, e, rw'⟩ := hs2.mem q _ (mem_of hj)
  obtain ⟨a3, t3⟩ := hs2.put (ob' := .obj C (putD f d fs)) (o := .ins C dx (putF f y ws)) hj (fun _ z => by cases z) fun H' e' => ⟨dx, _, e', rw'.put (rd.up st2.up)⟩
  exact ⟨q, C, dx, ws, rfl, e, hc, hn, by rw [rw'.length]; exact hl, k1 σ G2 _ ρ _ hk ((st1.trans st2).trans t3) a3 (sl.up (fun a o e => st2.up a o (st1.up a o e)))⟩
theorem pb_fld {C q : Addr} {f : Str} {fs : List (Str × D)} (j : Nat) (hv : PD X T ρ M v d M1) (ho : ∀ m, PD X T ρ m o (.ref q) m) (hc : Cls X.K C) (hn : NoAttr X.K C f) (k : PB X T ρ (M1.set j (some (q, .obj C (putD f d fs)))) rest Nx Rt)
    (hj : M1[j]? = some (some (q, .obj C fs)) := by rfl) (hl : fs.length < 1000 := by exact Nat.lt_of_lt_of_le (Nat.lt_succ_self _) (Nat.le_of_ble_eq_true rfl)) (hs : swapsWith v (some (.Attribute o f tpos)) pos.line X.env = pure false := by rfl) : PB X T ρ M (.Assign [.Attribute o f tpos] v pos :: rest) Nx Rt :=
  pb_seq (Nx1 := fun ρ' m => ρ' = ρ ∧ m = M1.set j (some (q, .obj C (putD f d fs)))) (pb1_fldR (j := j) (pdr_of hv) ho hc hn (fun d' m ⟨e1, e2⟩ => by subst e1; subst e2; exact ⟨fs, hj, hl, rfl, rfl⟩) hs) fun ρ' m ⟨e1, e2⟩ => by subst e1; subst e2; exact k
/-- o.f op= v -/
theorem pb_fldaug {C q : Addr} {f : Str} {fs : List (Str × D)} {op : Operator} {r : R2} (j : Nat) (ho : PD X T ρ M o (.ref q) M) (hj0 : M[j]? = some (some (q, .obj C fs))) (hf : fs.lookup f = some da) (hv : PD X T ρ M v db M) (hop : OpR X (inplaceOp op) r) (hr : OkR2 X.w T M r da db dc)
    (hc : Cls X.K C) (hn : NoAttr X.K C f) (hl : fs.length < 1000) (k : PB X T ρ (M.set j (some (q, .obj C (putD f dc fs)))) rest Nx Rt) : PB X T ρ M (.AugAssign (.Attribute o f tpos) op v pos :: rest) Nx Rt := by
  refine pb_seq (Nx1 := fun ρ' m => ρ' = ρ ∧ m = M.set j (some (q, .obj C (putD f dc fs)))) (PS.imp (ps_fldaug (rd := r) ho hv hop) fun Dd σ H ⟨G, hs', sl, k1, k2⟩ => ?_) fun ρ' m ⟨e1, e2⟩ => by subst e1; subst e2; exact k
  refine ⟨G, hs', sl, fun x G1 H1 st1 hs1 rx => ?_⟩
  cases rx
  obtain ⟨g0, dx, ws, e, rw'⟩ := hs1.mem q _ (mem_of hj0)
  obtain ⟨u, hu, ru⟩ := rw'.get hf
  refine ⟨q, C, dx, ws, u, rfl, e, hc, hn, hu, G1, hs1, sl.up st1.up, fun y G2 H2 st2 hs2 ry => ?_⟩
  refine hr G2 H2 u y _ hs2 (ru.up st2.up) ry fun z G3 H3 st3 hs3 rz => ?_
  obtain ⟨g3, dx', ws', e', rw3⟩ := hs3.mem q _ (mem_of hj0)
  obtain ⟨a3, t3⟩ := hs3.put (ob' := .obj C (putD f dc fs)) (o := .ins C dx' (putF f z ws')) hj0 (fun _ z => by cases z) fun H' e' => ⟨dx', _, e', rw3.put rz⟩
  exact ⟨dx', ws', e', by rw [rw3.length]; exact hl, k1 σ G3 _ ρ _ ⟨rfl, rfl⟩ (((st1.trans st2).trans st3).trans t3) a3 (sl.up fun a o e => st3.up a o (st2.up a o (st1.up a o e)))⟩
/-- x op= e -/
theorem pb_aug (i : Nat) {x : Str} {op : Operator} {r : R2} (hN : X.N.Nodup) (he : PD X T ρ M e db M1) (hop : OpR X (inplaceOp op) r) (hr : OkR2 X.w T M1 r da db dc) (k : PB X T (ρ.set i (some dc)) M1 rest Nx Rt) (hd : ρ[i]? = some (some da) := by rfl) (hi : X.N[i]? = some x := by rfl)
    (hx : Loc X.env.scope x := by first | exact Or.inl rfl | exact Or.inr rfl) (hf : X.fn x = true ∨ X.env.scope.names.lookup x = some .local := by first | exact .inl rfl | exact .inr rfl | assumption) : PB X T ρ M (.AugAssign (.Name x p) op e pos :: rest) Nx Rt := by
  refine pb_seq (Nx1 := fun ρ' m => ρ' = ρ.set i (some dc) ∧ m = M1) (PS.imp (ps_aug (ti := r) hN hi hx he hop hf) fun Dd σ H ⟨G, hs', sl, k1, k2⟩ => ?_) fun ρ' m ⟨e1, e2⟩ => by subst e1; subst e2; exact k
  obtain ⟨u, hu, ru⟩ := sl.at_ i da hd
  refine ⟨u, hu, G, hs', sl, fun y G1 H1 st1 hs1 ry => hr G1 H1 u y _ hs1 (ru.up st1.up) ry fun z G2 H2 st2 hs2 rz => ?_⟩
  exact k1 _ G2 H2 _ _ ⟨rfl, rfl⟩ (st1.trans st2) hs2 ((sl.up fun a o e => st2.up a o (st1.up a o e)).set i rz)
/-- xs[i] = v, xs ours -/
theorem pb_setix {q : Addr} {i : Int} {n : Nat} (j : Nat) (hv : PD X T ρ M v d M1) (ho : PD X T ρ M1 o (.ref q) M1) (hi : PD X T ρ M1 e (.int i) M1) (hj : M1[j]? = some (some (q, .lst ds))) (hn : ixN ds.length i = some n) (k : PB X T ρ (M1.set j (some (q, .lst (ds.set n d)))) rest Nx Rt)
    (hs : swapsWithSole [.Subscript o e p] v pos.line X.env = pure false := by rfl) (hw : swappedStores [.Subscript o e p] v X.env = pure none := by rfl) (h1 : (assignEach [.Subscript o e p] X.env).map (·.2) = [assign (.Subscript o e p) X.env] := by rfl)
    (ha : ∀ v, assign (.Subscript o e p) X.env v = (do
      let ov ← holding [v] (eval o X.env)
      let iv ← holding [v, ov] (eval e X.env)
      standAt p
      holding [v, ov, iv] (setItem ov iv v)
      release [v, ov, iv] []) := by intro _; rfl) : PB X T ρ M (.Assign [.Subscript o e p] v pos :: rest) Nx Rt := by
  refine pb_seq (Nx1 := fun ρ' m => ρ' = ρ ∧ m = M1.set j (some (q, .lst (ds.set n d)))) (PS.imp (ps_asg hv (pg_sub ho hi set_list ha) hs hw h1) fun Dd σ H ⟨G, hs', sl, k1, k2⟩ => ?_) fun ρ' m ⟨e1, e2⟩ => by subst e1; subst e2; exact k
  refine ⟨G, hs', sl, fun x G1 H1 st1 hs1 rx => ⟨G1, hs1, sl.up st1.up, fun y G2 H2 st2 hs2 ry => ⟨G2, hs2, (sl.up st1.up).up st2.up, fun z G3 H3 st3 hs3 rz => ?_⟩⟩⟩
  cases ry
  cases rz
  obtain ⟨g3, xs, e', rw3⟩ := hs3.mem q _ (mem_of hj)
  obtain ⟨a3, t3⟩ := hs3.put (ob' := .lst (ds.set n d)) (o := .lst (xs.set n x)) hj (fun _ z => by cases z) fun H' e' => ⟨_, e', rw3.set (rx.up fun a o e => st3.up a o (st2.up a o e)) n⟩
  exact ⟨q, xs, i, n, rfl, rfl, e', by rw [rw3.length]; exact hn, k1 σ G3 _ ρ _ ⟨rfl, rfl⟩ (((st1.trans st2).trans st3).trans t3) a3 (sl.up fun a o e => st3.up a o (st2.up a o (st1.up a o e)))⟩
/-! ### a new list that is ours -/
theorem pdr_lst (h : PDL X T ρ M es ds M1) (hl : ds.length ≤ sizeLine := by exact Nat.le_of_ble_eq_true rfl) : PDR X T ρ M (.List es pos) (fun d m => ∃ q, d = .ref q ∧ m = M1 ++ [some (q, .lst ds)]) :=
  (pe_lst h).imp fun σ H Q ⟨G, hs, sl, k⟩ => ⟨G, hs, sl, fun vs G1 H1 st1 hs1 r1 => ⟨by rw [r1.length]; exact hl, fun q hq => by
    obtain ⟨a1, t1⟩ := hs1.own (ob := .lst ds) (o := .lst vs) hq (fun _ z => by cases z) fun H' e => ⟨_, e, r1⟩
    exact k _ _ _ _ _ ⟨q, rfl, rfl⟩ (st1.trans t1) a1 (.ref q)⟩⟩
/-- what is ours becomes a datum -/
theorem pdr_freeze (h : PDR X T ρ M e R) (k : ∀ d m, R d m → ∃ q C fs, d = .ref q ∧ m = M1 ++ [some (q, .obj C fs)] ∧ R' (.obj C fs) M1) : PDR X T ρ M e R' :=
  h.imp fun σ H Q ⟨G, hs, sl, kk⟩ => ⟨G, hs, sl, fun v G' H' d m r st hs' rd => by
    obtain ⟨q, C, fs, rfl, rfl, hR⟩ := k d m r
    have hj : (M1 ++ [some (q, Ob.obj C fs)])[M1.length]? = some (some (q, .obj C fs)) := by
      rw [List.getElem?_append_right (Nat.le_refl _), Nat.sub_self]
      rfl
    obtain ⟨g0, dx, ws, e', rw'⟩ := hs'.mem q _ (mem_of hj)
    obtain ⟨a6, t6⟩ := hs'.freeze hj e' fun _ z => by cases z
    have hset : (M1 ++ [some (q, Ob.obj C fs)]).set M1.length none = M1 ++ [none] := by
      rw [List.set_append_right _ _ (Nat.le_refl _), Nat.sub_self]
      rfl
    rw [hset] at a6 t6
    have t7 := st.trans t6
    cases rd
    exact kk _ _ H' _ _ hR ⟨t7.up, t7.new, t7.keep, fun a h => t7.adr_ a (by rw [adr_app]; exact List.mem_append_left _ h)⟩ a6.left (.obj upd_same (rw'.up (up_upd g0)))⟩
/-! ### methods by values -/
def OkM (w : World) (T : List Addr) (M : Mem) (r : V → List V → Hp → VK → Prop) (da : D) (ds : List D) (d : D) (M' : Mem) : Prop := ∀ (G H : Hp) (v : V) (us : List V) (Q : VK), HS w T G H M → Dt w G v da → DtL w G us ds →
  (∀ z G' H', Step G H M G' H' M' → HS w T G' H' M' → Dt w G' z d → Q z H') → r v us H Q
def tyD (T : String) (x : V) (H : Hp) : Prop := (T = "list" ∧ ∃ p xs, x = .ref p ∧ H p = some (.lst xs)) ∨ (T = "dict" ∧ ∃ p L, x = .ref p ∧ Rd H p (dicO p L)) ∨ (T = "str" ∧ ∃ z, x = .str z)
theorem rd_ok {X : Cx} {pins : List (Addr × Obj)} {σ : L2.St} {H : Hp} {s : Shared} {a : Addr} {u : HO} (I : Inv X pins σ H s) : Rd H a u → ObjOk X.prog X.w H s.heap a u
  | .inl e => I.hok a _ e
  | .inr ⟨_, e⟩ => (I.hok a _ e).2
theorem tyD_ok {ty : String} : TyOk X ty (tyD ty) := by
  intro pins σ H s x v I r h
  rcases h with ⟨rfl, p, xs, rfl, e⟩ | ⟨rfl, p, L, rfl, e⟩ | ⟨rfl, z, rfl⟩
  · cases r
    obtain ⟨z, its, n, rr, e'⟩ := I.hok p _ e
    refine ⟨⟨_, e', rfl⟩, fun a ea => ?_⟩
    cases ea
    exact ⟨_, e', rfl⟩
  · cases r
    obtain ⟨⟨es, ep, e', _⟩, _⟩ := rd_ok I e
    refine ⟨⟨_, e', rfl⟩, fun a ea => ?_⟩
    cases ea
    exact ⟨_, e', rfl⟩
  · obtain ⟨t, rfl⟩ := r
    exact ⟨typeIs_str s z t, fun _ e => nomatch e⟩
theorem pd_m {ty id : String} {name : Str} {apos : Pos} {r : V → List V → Hp → VK → Prop} (pa : PlainAttrs ty) (slot : Slot ty name id) (hty : typeOf (.builtin id) = pure (.type "method_descriptor")) (hm : MtR X id r) (ho : PD X T ρ M o da M1) (ha : PDL X T ρ M1 (e :: es) ds M2)
    (ht : ∀ (G H : Hp) (v : V), HS X.w T G H M1 → Dt X.w G v da → tyD ty v H) (hr : OkM X.w T M2 r da ds d M3)
    (hbase : attributeBase o name X.env (eval o X.env) = eval o X.env := by rfl)
    (hfew : ((backTo pos (starEach (e :: es) X.env)).all (fun x => !x.1) && (backToKw pos (keywordEach [] X.env)).all (fun x => x.1.isSome)
      && decide ((e :: es).length + ([] : List Keyword).length + (if ([] : List Keyword).isEmpty then 0 else 1) < 30)) = true := by rfl)
    (hline : (apos.endLine == pos.line) = true := by rfl) (hs : starEach (e :: es) X.env = (false, eval e X.env) :: starEach es X.env := by rfl) (hplain : (backTo pos (starEach es X.env)).any (·.1) = false := by rfl) :
    PD X T ρ M (.Call (.Attribute o name apos) (e :: es) [] pos) d M3 :=
  (pe_mG (ty := tyD ty) tyD_ok pa slot hty hm ho ha hbase hfew hline hs hplain).imp fun σ H Q ⟨G, hs, sl, k⟩ => ⟨G, hs, sl, fun v G1 H1 st1 hs1 r1 => ⟨ht G1 H1 v hs1 r1, G1, hs1, sl.up st1.up, fun us G2 H2 st2 hs2 r2 =>
    hr G2 H2 v us Q hs2 (r1.up st2.up) r2 fun z G' H' st hs' rz => k z G' H' ((st1.trans st2).trans st) hs' rz⟩⟩
theorem pd_m0 {ty id : String} {name : Str} {apos : Pos} {r : V → List V → Hp → VK → Prop} (pa : PlainAttrs ty) (slot : Slot ty name id) (hty : typeOf (.builtin id) = pure (.type "method_descriptor")) (hm : MtR X id r) (ho : PD X T ρ M o da M1)
    (ht : ∀ (G H : Hp) (v : V), HS X.w T G H M1 → Dt X.w G v da → tyD ty v H) (hr : OkM X.w T M1 r da [] d M3)
    (hbase : attributeBase o name X.env (eval o X.env) = eval o X.env := by rfl) (hline : (apos.endLine == pos.line) = true := by rfl) :
    PD X T ρ M (.Call (.Attribute o name apos) [] [] pos) d M3 :=
  (pe_mG0 (ty := tyD ty) tyD_ok pa slot hty hm ho hbase hline).imp fun σ H Q ⟨G, hs, sl, k⟩ => ⟨G, hs, sl, fun v G1 H1 st1 hs1 r1 => ⟨ht G1 H1 v hs1 r1,
    hr G1 H1 v [] Q hs1 r1 .nil fun z G' H' st hs' rz => k z G' H' (st1.trans st) hs' rz⟩⟩
theorem own_list {w : World} {j : Nat} {q : Addr} (hj : M[j]? = some (some (q, .lst ds))) (G H : Hp) (v : V) (hs : HS w T G H M) (r : Dt w G v (.ref q)) : tyD "list" v H := by
  cases r
  obtain ⟨_, xs, e, _⟩ := hs.mem q _ (mem_of hj)
  exact .inl ⟨rfl, q, xs, rfl, e⟩
/-- xs.append(e) -/
theorem pd_append {q : Addr} {apos : Pos} (j : Nat) (ho : PD X T ρ M o (.ref q) M1) (ha : PD X T ρ M1 e d M2) (hj1 : ∃ ds', M1[j]? = some (some (q, .lst ds'))) (hj : M2[j]? = some (some (q, .lst ds))) (hz : ds.length < sizeLine)
    (hbase : attributeBase o "append" X.env (eval o X.env) = eval o X.env := by rfl)
    (hfew : ((backTo pos (starEach [e] X.env)).all (fun x => !x.1) && (backToKw pos (keywordEach [] X.env)).all (fun x => x.1.isSome)
      && decide ([e].length + ([] : List Keyword).length + (if ([] : List Keyword).isEmpty then 0 else 1) < 30)) = true := by rfl)
    (hline : (apos.endLine == pos.line) = true := by rfl) (hs : starEach [e] X.env = (false, eval e X.env) :: starEach [] X.env := by rfl) : PD X T ρ M (.Call (.Attribute o "append" apos) [e] [] pos) .non (M2.set j (some (q, .lst (ds ++ [d])))) := by
  obtain ⟨ds', hj1⟩ := hj1
  refine pd_m F.plainAttrs_list F.slot_list_append rfl mt_append ho (pdl_1 ha hs) (own_list hj1) (fun G H v us Q hs' r1 r2 k => ?_) hbase hfew hline hs rfl
  cases r1
  obtain ⟨u, rfl, ru⟩ := r2.one
  obtain ⟨g0, xs, e', rw'⟩ := hs'.mem q _ (mem_of hj)
  obtain ⟨a3, t3⟩ := hs'.put (ob' := .lst (ds ++ [d])) (o := .lst (xs ++ [u])) hj (fun _ z => by cases z) fun H' e' => ⟨_, e', rw'.app (.cons ru .nil)⟩
  exact ⟨q, xs, u, rfl, rfl, e', by rw [rw'.length]; exact hz, k _ _ _ t3 a3 .non⟩
/-! ### lists of arguments that are known by a relation -/
def tELR (w : World) (T : List Addr) (ρ : List (Option D)) (M : Mem) (R : List D → Mem → Prop) : TA := fun σ H Q => ∃ G, HS w T G H M ∧ SL w G σ ρ ∧
  ∀ vs G' H' ds M', R ds M' → Step G H M G' H' M' → HS w T G' H' M' → DtL w G' vs ds → Q vs H'
abbrev PDLR (X : Cx) (T : List Addr) (ρ : List (Option D)) (M : Mem) (es : List Expr) (R : List D → Mem → Prop) : Prop := PA X es (tELR X.w T ρ M R)
theorem pdlr_nil {R : List D → Mem → Prop} (h : R [] M) : PDLR X T ρ M [] R := PA.imp pa_nil fun σ H Q ⟨G, hs, sl, k⟩ => k [] G H [] M h (Step.refl _ _ _) hs .nil
theorem _root_.L2.PA.ex {X : Cx} {e : List Expr} {α : Type} {t : α → TA} (h : ∀ x, PA X e (t x)) : PA X e (fun σ H Q => ∃ x, t x σ H Q) :=
  ⟨fun pos pins s σ H Q I ⟨x, q⟩ => (h x).run pos pins s σ H Q I q⟩
theorem _root_.L2.PA.exB {X : Cx} {e : List Expr} {t : TA} {P : Prop} (h : P → PA X e t) : PA X e (fun σ H Q => P ∧ t σ H Q) :=
  ⟨fun pos pins s σ H Q I q => (h q.1).run pos pins s σ H Q I q.2⟩
theorem pdlr_cons {RL : List D → Mem → Prop} (h : PDR X T ρ M e R) (r : ∀ d m, R d m → PDLR X T ρ m es (fun ds m' => RL (d :: ds) m')) (hs : starEach (e :: es) X.env = (false, eval e X.env) :: starEach es X.env := by rfl) : PDLR X T ρ M (e :: es) RL :=
  PA.imp (pa_cons h (PA.ex fun (x : D × Mem) => PA.exB (P := R x.1 x.2) (r x.1 x.2)) hs) fun σ H Q ⟨G, hs, sl, k⟩ => ⟨G, hs, sl, fun v G1 H1 d m rd st1 hs1 r1 => ⟨(d, m), rd, G1, hs1, sl.up st1.up, fun vs G2 H2 ds m' rl st2 hs2 r2 => k (v :: vs) G2 H2 (d :: ds) m' rl (st1.trans st2) hs2 (.cons (r1.up st2.up) r2)⟩⟩
theorem pdlr_of (h : PDL X T ρ M es ds M1) : PDLR X T ρ M es (fun ds' m => ds' = ds ∧ m = M1) :=
  PA.imp h fun σ H Q ⟨G, hs, sl, k⟩ => ⟨G, hs, sl, fun vs G' H' st hs' rd => k vs G' H' ds M1 ⟨rfl, rfl⟩ st hs' rd⟩
/-- x, y = a, b -/
theorem pb_parR {i j : Nat} {x y : Str} {px py pt pt2 : Pos} {kt k2} {RL : List D → Mem → Prop} (ha : PDLR X T ρ M [a, b] RL) (hN : X.N.Nodup) (k : ∀ d1 d2 m, RL [d1, d2] m → PB X T ((ρ.set i (some d1)).set j (some d2)) m rest Nx Rt) (hr : ∀ ds m, RL ds m → ds.length = 2)
    (hi : X.N[i]? = some x := by rfl) (hj : X.N[j]? = some y := by rfl) (hij : i ≠ j := by decide) (hx : X.env.scope.names.lookup x = some .local := by rfl) (hy : X.env.scope.names.lookup y = some .local := by rfl)
    (hw : swappedStores [.Tuple [.Name x px, .Name y py] kt pt] (.Tuple [a, b] k2 pt2) X.env = pure (some [x, y]) := by rfl) (hc : X.calm = true := by rfl)
    (hs : swapsWithSole [.Tuple [.Name x px, .Name y py] kt pt] (.Tuple [a, b] k2 pt2) pos.line X.env = pure false := by rfl) : PB X T ρ M (.Assign [.Tuple [.Name x px, .Name y py] kt pt] (.Tuple [a, b] k2 pt2) pos :: rest) Nx Rt :=
  pb_seq (Nx1 := fun ρ' m => ∃ d1 d2, RL [d1, d2] m ∧ ρ' = (ρ.set i (some d1)).set j (some d2)) (PS.imp (ps_par hc hN hi hj hij hx hy ha hw hs) fun Dd σ H ⟨G, hs', sl, k1, k2⟩ => ⟨G, hs', sl, fun vs G1 H1 ds m rl st1 hs1 rd => by
    match ds, hr ds m rl, rl, rd with
    | [d1, d2], _, rl, rd =>
      obtain ⟨v, u, rfl, r1, r2⟩ := rd.two
      exact ⟨v, u, rfl, k1 _ G1 H1 _ m ⟨d1, d2, rl, rfl⟩ st1 hs1 (((sl.up st1.up).set i r1).set j r2)⟩⟩) fun ρ' m ⟨d1, d2, rl, e⟩ => by subst e; exact k d1 d2 m rl
theorem pb_par (i j : Nat) {x y : Str} {px py pt pt2 : Pos} {kt k2} {d1 d2 : D} (ha : PDL X T ρ M [a, b] [d1, d2] M1) (hN : X.N.Nodup) (k : PB X T ((ρ.set i (some d1)).set j (some d2)) M1 rest Nx Rt)
    (hi : X.N[i]? = some x := by rfl) (hj : X.N[j]? = some y := by rfl) (hij : i ≠ j := by decide) (hx : X.env.scope.names.lookup x = some .local := by rfl) (hy : X.env.scope.names.lookup y = some .local := by rfl)
    (hw : swappedStores [.Tuple [.Name x px, .Name y py] kt pt] (.Tuple [a, b] k2 pt2) X.env = pure (some [x, y]) := by rfl) (hc : X.calm = true := by rfl)
    (hs : swapsWithSole [.Tuple [.Name x px, .Name y py] kt pt] (.Tuple [a, b] k2 pt2) pos.line X.env = pure false := by rfl) : PB X T ρ M (.Assign [.Tuple [.Name x px, .Name y py] kt pt] (.Tuple [a, b] k2 pt2) pos :: rest) Nx Rt :=
  pb_parR (pdlr_of ha) hN (fun e1 e2 m ⟨q1, q2⟩ => by cases q1; subst q2; exact k) (fun ds m ⟨q, _⟩ => by rw [q]; rfl) hi hj hij hx hy hw hc hs
theorem DtL.three {w : World} {G : Hp} {vs : List V} {d d' d2 : D} (r : DtL w G vs [d, d', d2]) : ∃ v u z, vs = [v, u, z] ∧ Dt w G v d ∧ Dt w G u d' ∧ Dt w G z d2 := by
  cases r with
  | cons h t =>
    obtain ⟨u, z, rfl, h2, h3⟩ := t.two
    exact ⟨_, u, z, rfl, h, h2, h3⟩
theorem pb_par3R (i j l : Nat) {x y z : Str} {px py pz pt pt2 : Pos} {kt k2} {RL : List D → Mem → Prop} (ha : PDLR X T ρ M [a, b, c] RL) (hN : X.N.Nodup) (k : ∀ d1 d2 d3 m, RL [d1, d2, d3] m → PB X T (((ρ.set i (some d1)).set j (some d2)).set l (some d3)) m rest Nx Rt) (hr : ∀ ds m, RL ds m → ds.length = 3)
    (hi : X.N[i]? = some x := by rfl) (hj : X.N[j]? = some y := by rfl) (hl : X.N[l]? = some z := by rfl) (hij : i ≠ j := by decide) (hil : i ≠ l := by decide) (hjl : j ≠ l := by decide)
    (hx : X.env.scope.names.lookup x = some .local := by rfl) (hy : X.env.scope.names.lookup y = some .local := by rfl) (hz : X.env.scope.names.lookup z = some .local := by rfl)
    (hw : swappedStores [.Tuple [.Name x px, .Name y py, .Name z pz] kt pt] (.Tuple [a, b, c] k2 pt2) X.env = pure (some [x, y, z]) := by rfl) (hc : X.calm = true := by rfl)
    (hs : swapsWithSole [.Tuple [.Name x px, .Name y py, .Name z pz] kt pt] (.Tuple [a, b, c] k2 pt2) pos.line X.env = pure false := by rfl) : PB X T ρ M (.Assign [.Tuple [.Name x px, .Name y py, .Name z pz] kt pt] (.Tuple [a, b, c] k2 pt2) pos :: rest) Nx Rt :=
  pb_seq (Nx1 := fun ρ' m => ∃ d1 d2 d3, RL [d1, d2, d3] m ∧ ρ' = ((ρ.set i (some d1)).set j (some d2)).set l (some d3)) (PS.imp (ps_par3 hc hN hi hj hl hij hil hjl hx hy hz ha hw hs) fun Dd σ H ⟨G, hs', sl, k1, k2⟩ => ⟨G, hs', sl, fun vs G1 H1 ds m rl st1 hs1 rd => by
    match ds, hr ds m rl, rl, rd with
    | [d1, d2, d3], _, rl, rd =>
      obtain ⟨v, u, w', rfl, r1, r2, r3⟩ := rd.three
      exact ⟨v, u, w', rfl, k1 _ G1 H1 _ m ⟨d1, d2, d3, rl, rfl⟩ st1 hs1 ((((sl.up st1.up).set i r1).set j r2).set l r3)⟩⟩) fun ρ' m ⟨d1, d2, d3, rl, e⟩ => by subst e; exact k d1 d2 d3 m rl
/-- target = e, the target of any form -/
theorem pb_asgG {g : TG} {is : List Nat} {unp : D → Option (List D)} {us : List D} {tg : Expr} (he : PD X T ρ M e d M1) (hg : PG X tg g) (ht : Tgt X.w g is unp) (hu : unp d = some us) (k : PB X T (setsD ρ is us) M1 rest Nx Rt)
    (hs : swapsWithSole [tg] e pos.line X.env = pure false := by rfl) (hw : swappedStores [tg] e X.env = pure none := by rfl) (h1 : (assignEach [tg] X.env).map (·.2) = [assign tg X.env] := by rfl) : PB X T ρ M (.Assign [tg] e pos :: rest) Nx Rt := by
  refine pb_seq (Nx1 := fun ρ' m => ρ' = setsD ρ is us ∧ m = M1) (PS.imp (ps_asg he hg hs hw h1) fun Dd σ H ⟨G, hs', sl, k1, k2⟩ => ?_) fun ρ' m ⟨e1, e2⟩ => by subst e1; subst e2; exact k
  exact ⟨G, hs', sl, fun v G1 H1 st1 hs1 r1 => ht.ok T v σ G1 H1 M1 _ d us hs1 r1 hu fun σ' hsl _ => k1 σ' G1 H1 _ _ ⟨rfl, rfl⟩ st1 hs1 (hsl ρ (sl.up st1.up))⟩
/-- a < b < c -/
theorem pd_chain {op op' : CmpOp} {r r' : R2} {k l : Bool} (ho : OpR X (compareOp op) r) (ho' : OpR X (compareOp op') r') (hr : OkR2 X.w T M2 r da db (.bl k)) (hr' : OkR2 X.w T M3 r' db dc (.bl l)) (ha : PD X T ρ M a da M1) (hb : PD X T ρ M1 b db M2) (hc : PD X T ρ M2 c dc M3) (hM : k = false → M3 = M2)
    (hm : lastMarks [op, op'] [b, c] = false := by with_unfolding_all rfl) : PD X T ρ M (.Compare a [op, op'] [b, c] pos) (.bl (k && l)) M3 :=
  (pe_chain ho ho' ha hb hc hm).imp fun σ H Q ⟨G, hs, sl, kk⟩ => ⟨G, hs, sl, fun x G1 H1 st1 hs1 r1 => ⟨G1, hs1, sl.up st1.up, fun y G2 H2 st2 hs2 r2 => hr G2 H2 x y _ hs2 (r1.up st2.up) r2 fun z G3 H3 st3 hs3 r3 => by
    cases r3
    cases k with
    | false =>
      refine ⟨_, rfl, ?_⟩
      rw [if_neg Bool.false_ne_true]
      have e := hM rfl
      subst e
      exact kk _ G3 H3 ((st1.trans st2).trans st3) hs3 (.bl _)
    | true =>
      refine ⟨_, rfl, ?_⟩
      rw [if_pos rfl]
      refine ⟨G3, hs3, ((sl.up st1.up).up st2.up).up st3.up, fun u G4 H4 st4 hs4 r4 => hr' G4 H4 y u _ hs4 ((r2.up st3.up).up st4.up) r4 fun z' G5 H5 st5 hs5 r5 => ?_⟩
      exact kk z' G5 H5 ((((st1.trans st2).trans st3).trans st4).trans st5) hs5 r5⟩⟩
theorem pdt_chain {op op' : CmpOp} {r r' : R2} {k l : Bool} (ho : OpR X (compareOp op) r) (ho' : OpR X (compareOp op') r') (hr : OkR2 X.w T M2 r da db (.bl k)) (hr' : OkR2 X.w T M3 r' db dc (.bl l)) (ha : PD X T ρ M a da M1) (hb : PD X T ρ M1 b db M2) (hc : PD X T ρ M2 c dc M3) (hM : k = false → M3 = M2)
    (hm : lastMarks [op, op'] [b, c] = false := by with_unfolding_all rfl) : PDT X T ρ M (.Compare a [op, op'] [b, c] pos) (k && l) M3 :=
  (pt_chain ho ho' ha hb hc hm).imp fun σ H Q ⟨G, hs, sl, kk⟩ => ⟨G, hs, sl, fun x G1 H1 st1 hs1 r1 => ⟨G1, hs1, sl.up st1.up, fun y G2 H2 st2 hs2 r2 => hr G2 H2 x y _ hs2 (r1.up st2.up) r2 fun z G3 H3 st3 hs3 r3 => by
    cases r3
    cases k with
    | false =>
      refine ⟨_, rfl, ?_⟩
      rw [if_neg Bool.false_ne_true]
      have e := hM rfl
      subst e
      exact ⟨_, rfl, kk G3 H3 ((st1.trans st2).trans st3) hs3⟩
    | true =>
      refine ⟨_, rfl, ?_⟩
      rw [if_pos rfl]
      refine ⟨G3, hs3, ((sl.up st1.up).up st2.up).up st3.up, fun u G4 H4 st4 hs4 r4 => hr' G4 H4 y u _ hs4 ((r2.up st3.up).up st4.up) r4 fun z' G5 H5 st5 hs5 r5 => ?_⟩
      cases r5
      exact ⟨_, rfl, kk G5 H5 ((((st1.trans st2).trans st3).trans st4).trans st5) hs5⟩⟩⟩
/-! ### == of data -/
mutual
def D.py : D → Option PyData
  | .non => some .none
  | .bl b => some (.bool b)
  | .int i => some (.int i)
  | .str x => some (.str x)
  | .tup ds => (D.pys ds).map .tuple
  | .lst ds => (D.pys ds).map .list
  | .dic _ => none
  | .obj _ _ => none
  | .ref _ => none
def D.pys : List D → Option (List PyData)
  | [] => some []
  | d :: ds => match D.py d, D.pys ds with
    | some k, some ks => some (k :: ks)
    | _, _ => none
end
section
variable {w : World} {G H : Hp} {K : PySem.W.Frag}
mutual
theorem Dt.dp (hG : ∀ a o, G a = some o → H a = some o) : ∀ {v : V} {d : D}, Dt w G v d → ∀ {y : PyData}, d.py = some y → Dp K H v y
  | _, _, .non, y, e => by cases e; exact .non
  | _, _, .bl b, y, e => by cases e; exact .bl b
  | _, _, .int b, y, e => by cases e; exact .int b
  | _, _, .str b, y, e => by cases e; exact .str b
  | _, _, .ref b, y, e => by cases e
  | _, _, .tup h r, y, e => by
    rename_i ds
    unfold D.py at e
    cases q : D.pys ds with
    | none => rw [q] at e; cases e
    | some ys => rw [q] at e; cases e; exact .tup (SqT.of (hG _ _ h)) (DtL.dp hG r q)
  | _, _, .lst h r, y, e => by
    rename_i ds
    unfold D.py at e
    cases q : D.pys ds with
    | none => rw [q] at e; cases e
    | some ys => rw [q] at e; cases e; exact .lst (SqL.of (hG _ _ h)) (DtL.dp hG r q)
  | _, _, .dic h r k, y, e => by cases e
  | _, _, .obj h r, y, e => by cases e
theorem DtL.dp (hG : ∀ a o, G a = some o → H a = some o) : ∀ {vs : List V} {ds : List D}, DtL w G vs ds → ∀ {ys : List PyData}, D.pys ds = some ys → DpAll K H vs ys
  | _, _, .nil, ys, e => by cases e; exact .nil
  | _, _, .cons h r, ys, e => by
    rename_i d ds
    unfold D.pys at e
    cases q1 : d.py with
    | none => rw [q1] at e; cases e
    | some y =>
      cases q2 : D.pys ds with
      | none => rw [q1, q2] at e; cases e
      | some zs => rw [q1, q2] at e; cases e; exact .cons (Dt.dp hG h q1) (DtL.dp hG r q2)
end
end
/-- d's data: owned lists too -/
inductive PV (M : Mem) : D → PyData → Prop
  | dat {d : D} {y : PyData} (h : d.py = some y) : PV M d y
  | own {q : Addr} {ds : List D} {ys : List PyData} (j : Nat) (h : M[j]? = some (some (q, .lst ds))) (e : D.pys ds = some ys) : PV M (.ref q) (.list ys)
theorem PV.dp {w : World} {G H : Hp} {K : PySem.W.Frag} {v : V} {y : PyData} (p : PV M d y) (hs : HS w T G H M) (r : Dt w G v d) : Dp K H v y := by
  cases p with
  | dat h => exact r.dp hs.sub h
  | own j h e =>
    cases r
    obtain ⟨_, xs, e', rr⟩ := hs.mem _ _ (mem_of h)
    exact .lst (SqL.of e') (rr.dp hs.sub e)
theorem ok_eqD {x y : PyData} {k : Bool} {w : World} {K : PySem.W.Frag} (h1 : PV M da x) (h2 : PV M db y) (s1 : SeqAt.shaped x = true) (s2 : SeqAt.shaped y = true) (hk : PyData.eqv x y = k) : OkR2 w T M (rEqD K) da db (.bl k) := fun G H v u Q hs r1 r2 q => by
  subst hk
  exact ⟨x, y, h1.dp hs r1, h2.dp hs r2, s1, s2, q _ G H (Step.refl _ _ _) hs (.bl _)⟩
theorem ok_neD {x y : PyData} {k : Bool} {w : World} {K : PySem.W.Frag} (h1 : PV M da x) (h2 : PV M db y) (s1 : SeqAt.shaped x = true) (s2 : SeqAt.shaped y = true) (hk : (!PyData.eqv x y) = k) : OkR2 w T M (rNeD K) da db (.bl k) := fun G H v u Q hs r1 r2 q => by
  subst hk
  exact ⟨x, y, h1.dp hs r1, h2.dp hs r2, s1, s2, q _ G H (Step.refl _ _ _) hs (.bl _)⟩
theorem pd_eqD {x y : PyData} {k : Bool} (hu : X.A.units + 64 < cLine) (h1 : PV M2 da x) (h2 : PV M2 db y) (s1 : SeqAt.shaped x = true) (s2 : SeqAt.shaped y = true) (hk : PyData.eqv x y = k) (ha : PD X T ρ M a da M1) (hb : PD X T ρ M1 b db M2) (hm : behindInMarks .Eq b = false := by first | exact nomark _ | rfl | with_unfolding_all rfl) : PD X T ρ M (.Compare a [.Eq] [b] pos) (.bl k) M2 := pd_cmp (op_eqD hu) (ok_eqD h1 h2 s1 s2 hk) ha hb hm
theorem pd_neD {x y : PyData} {k : Bool} (hu : X.A.units + 64 < cLine) (h1 : PV M2 da x) (h2 : PV M2 db y) (s1 : SeqAt.shaped x = true) (s2 : SeqAt.shaped y = true) (hk : (!PyData.eqv x y) = k) (ha : PD X T ρ M a da M1) (hb : PD X T ρ M1 b db M2) (hm : behindInMarks .NotEq b = false := by first | exact nomark _ | rfl | with_unfolding_all rfl) : PD X T ρ M (.Compare a [.NotEq] [b] pos) (.bl k) M2 := pd_cmp (op_neD hu) (ok_neD h1 h2 s1 s2 hk) ha hb hm
theorem pdt_eqD {x y : PyData} {k : Bool} (hu : X.A.units + 64 < cLine) (h1 : PV M2 da x) (h2 : PV M2 db y) (s1 : SeqAt.shaped x = true) (s2 : SeqAt.shaped y = true) (hk : PyData.eqv x y = k) (ha : PD X T ρ M a da M1) (hb : PD X T ρ M1 b db M2) (hm : behindInMarks .Eq b = false := by first | exact nomark _ | rfl | with_unfolding_all rfl) : PDT X T ρ M (.Compare a [.Eq] [b] pos) k M2 := pdt_cmp (op_eqD hu) (ok_eqD h1 h2 s1 s2 hk) ha hb hm
theorem pdt_neD {x y : PyData} {k : Bool} (hu : X.A.units + 64 < cLine) (h1 : PV M2 da x) (h2 : PV M2 db y) (s1 : SeqAt.shaped x = true) (s2 : SeqAt.shaped y = true) (hk : (!PyData.eqv x y) = k) (ha : PD X T ρ M a da M1) (hb : PD X T ρ M1 b db M2) (hm : behindInMarks .NotEq b = false := by first | exact nomark _ | rfl | with_unfolding_all rfl) : PDT X T ρ M (.Compare a [.NotEq] [b] pos) k M2 := pdt_cmp (op_neD hu) (ok_neD h1 h2 s1 s2 hk) ha hb hm
/-! ### x in (a, b) of ints -/
theorem inV_ints (i : Int) (ns : List Int) : inV (.int i) (ns.map V.int) = ns.contains i := by
  unfold inV
  induction ns with
  | nil => rfl
  | cons n ns ih =>
    rw [List.map_cons, List.any_cons, ih, List.contains_cons]
    congr 1
    show decide _ = _ 
    by_cases h : n = i
    · subst h; simp
    · have : ¬ i = n := fun z => h z.symm
      simp [h, this]
theorem flat_ints (ns : List Int) : (ns.map V.int).all flatV = true := by
  induction ns with
  | nil => rfl
  | cons n ns ih => rw [List.map_cons, List.all_cons, ih]; rfl
theorem pd_inT {i : Int} {ns : List Int} (ha : PD X T ρ M a (.int i) M1) (hb : PD X T ρ M1 b (.tup (ns.map D.int)) M2) (hm : behindInMarks .In b = false := by first | exact nomark _ | rfl | with_unfolding_all rfl) : PD X T ρ M (.Compare a [.In] [b] pos) (.bl (ns.contains i)) M2 :=
  pd_cmp op_in_seq (fun G H v u Q hs r1 r2 q => by
    cases r1
    obtain ⟨p, xs, rfl, e, r⟩ := r2.tupH hs
    rw [r.ints] at e
    refine ⟨p, _, rfl, .inr (SqT.of e), rfl, flat_ints ns, ?_⟩
    rw [inV_ints]
    exact q _ G H (Step.refl _ _ _) hs (.bl _)) ha hb hm
theorem pd_ninT {i : Int} {ns : List Int} (ha : PD X T ρ M a (.int i) M1) (hb : PD X T ρ M1 b (.tup (ns.map D.int)) M2) (hm : behindInMarks .NotIn b = false := by first | exact nomark _ | rfl | with_unfolding_all rfl) : PD X T ρ M (.Compare a [.NotIn] [b] pos) (.bl (!ns.contains i)) M2 :=
  pd_cmp op_notIn_seq (fun G H v u Q hs r1 r2 q => by
    cases r1
    obtain ⟨p, xs, rfl, e, r⟩ := r2.tupH hs
    rw [r.ints] at e
    refine ⟨p, _, rfl, .inr (SqT.of e), rfl, flat_ints ns, ?_⟩
    rw [inV_ints]
    exact q _ G H (Step.refl _ _ _) hs (.bl _)) ha hb hm
end
end LW

set_option Elab.async false
set_option linter.all false
set_option maxRecDepth 100000
set_option maxHeartbeats 4000000
/-! LJ: dicts of data. -/
namespace LW
open PySem PySem.Spec PyProof.Rows L2
/-! ### the entries' laws, by data -/
def nkEq (a b : D) : Bool := decide (a.nk = b.nk)
def dput (kvs : List (D × D)) (k v : D) : List (D × D) := if (kvs.any fun p => nkEq p.1 k) = true then kvs.map (fun p => if nkEq p.1 k = true then (p.1, v) else p) else kvs ++ [(k, v)]
def dget (kvs : List (D × D)) (k : D) : Option D := (kvs.find? fun p => nkEq p.1 k).map (·.2)
def dmrg (kvs more : List (D × D)) : List (D × D) := more.foldl (fun acc p => dput acc p.1 p.2) kvs
def ddel (kvs : List (D × D)) (k : D) : List (D × D) := kvs.filter fun p => !nkEq p.1 k
theorem dput_keys {kvs : List (D × D)} {k v : D} : (dput kvs k v).map (·.1) = if (kvs.any fun p => nkEq p.1 k) = true then kvs.map (·.1) else kvs.map (·.1) ++ [k] := by
  unfold dput
  split
  · rw [List.map_map]
    refine List.map_congr_left fun p _ => ?_
    show (if nkEq p.1 k = true then (p.1, v) else p).1 = p.1
    split <;> rfl
  · rw [List.map_append]
    rfl
theorem dput_all {Pr : D → Prop} {kvs : List (D × D)} {k v : D} (h : ∀ p ∈ kvs, Pr p.1) (hk : Pr k) : ∀ p ∈ dput kvs k v, Pr p.1 := by
  have e := dput_keys (kvs := kvs) (k := k) (v := v)
  intro p hp
  have m : p.1 ∈ (dput kvs k v).map (·.1) := List.mem_map.mpr ⟨p, hp, rfl⟩
  rw [e] at m
  split at m
  · obtain ⟨q, hq, e'⟩ := List.mem_map.mp m
    rw [← e']
    exact h q hq
  · rcases List.mem_append.mp m with m | m
    · obtain ⟨q, hq, e'⟩ := List.mem_map.mp m
      rw [← e']
      exact h q hq
    · rw [List.mem_singleton.mp m]
      exact hk
theorem dput_len {kvs : List (D × D)} {k v : D} : (dput kvs k v).length ≤ kvs.length + 1 := by
  unfold dput
  split
  · rw [List.length_map]; omega
  · rw [List.length_append]; exact Nat.le_refl _
theorem dput_nd {kvs : List (D × D)} {k v : D} (h : (kvs.map fun p => p.1.nk).Nodup) : ((dput kvs k v).map fun p => p.1.nk).Nodup := by
  have e1 : ((dput kvs k v).map fun p => p.1.nk) = ((dput kvs k v).map (·.1)).map D.nk := by rw [List.map_map]; rfl
  have e2 : (kvs.map fun p => p.1.nk) = (kvs.map (·.1)).map D.nk := by rw [List.map_map]; rfl
  rw [e1, dput_keys]
  rw [e2] at h
  split
  · exact h
  · rename_i hn
    rw [List.map_append, List.nodup_append]
    refine ⟨h, (by simp), fun a ha b hb => ?_⟩
    rw [List.map_cons, List.map_nil, List.mem_singleton] at hb
    subst hb
    intro e
    subst e
    obtain ⟨q, hq, e'⟩ := List.mem_map.mp ha
    obtain ⟨p, hp, e''⟩ := List.mem_map.mp hq
    apply hn
    rw [List.any_eq_true]
    exact ⟨p, hp, by unfold nkEq; rw [decide_eq_true]; rw [e'', e']⟩
theorem dmrg_all {Pr : D → Prop} : ∀ {more kvs : List (D × D)}, (∀ p ∈ kvs, Pr p.1) → (∀ p ∈ more, Pr p.1) → ∀ p ∈ dmrg kvs more, Pr p.1
  | [], _, h, _ => h
  | x :: r, kvs, h, hm => dmrg_all (more := r) (kvs := dput kvs x.1 x.2) (dput_all h (hm x List.mem_cons_self)) fun p hp => hm p (List.mem_cons_of_mem _ hp)
theorem dmrg_len : ∀ {more kvs : List (D × D)}, (dmrg kvs more).length ≤ kvs.length + more.length
  | [], _ => Nat.le_refl _
  | x :: r, kvs => by
    have h1 := dmrg_len (more := r) (kvs := dput kvs x.1 x.2)
    have h2 := dput_len (kvs := kvs) (k := x.1) (v := x.2)
    show (dmrg (dput kvs x.1 x.2) r).length ≤ kvs.length + (r.length + 1)
    omega
theorem dmrg_nd : ∀ {more kvs : List (D × D)}, (kvs.map fun p => p.1.nk).Nodup → ((dmrg kvs more).map fun p => p.1.nk).Nodup
  | [], _, h => h
  | x :: r, kvs, h => dmrg_nd (more := r) (kvs := dput kvs x.1 x.2) (dput_nd h)
/-- keys of one kind, that are keys -/
structure KOk (kvs : List (D × D)) : Prop where
  kind : ∃ t : KT, ∀ p ∈ kvs, t.of p.1 = true
  dep : ∀ p ∈ kvs, ∃ k, p.1.nk = some k ∧ k.depth ≤ 8
theorem KOk.mrg {kvs : List (D × D)} (h : KOk kvs) : KOk (dmrg [] kvs) := by
  obtain ⟨⟨t, ht⟩, hd⟩ := h
  exact ⟨⟨t, dmrg_all (Pr := fun d => t.of d = true) (fun _ h => by cases h) ht⟩, dmrg_all (Pr := fun d => ∃ k, d.nk = some k ∧ k.depth ≤ 8) (fun _ h => by cases h) hd⟩
theorem DicOk.of {a : Addr} {kvs : List (D × D)} (h : KOk kvs) (hs : (a == sysModules) = false) (hl : kvs.length ≤ sizeLine) : DicOk a (dmrg [] kvs) := by
  obtain ⟨hk, hd⟩ := h.mrg
  exact ⟨hs, by have := dmrg_len (more := kvs) (kvs := []); simp only [List.length_nil] at this; omega, dmrg_nd List.nodup_nil, hk, fun p hp k e => by obtain ⟨k', e', h'⟩ := hd p hp; rw [e] at e'; cases e'; exact h'⟩
/-! ### keys carried by value -/
structure KX (P : Program) (w : World) {K : Type} [DecidableEq K] (knd : KeyKind P w K) (ek : K → D) (vk : K → V) (nkk : K → NestedKey) : Prop where
  v_of : ∀ {G : Hp} {v : V} {k : K}, Dt w G v (ek k) → v = vk k
  of_v : ∀ (G : Hp) (k : K), Dt w G (vk k) (ek k)
  is_ : ∀ {k : K} {u : Value}, RelV (vk k) u → knd.is k u = true
  rel : ∀ {k : K} {u : Value}, knd.is k u = true → RelV (vk k) u
  nk : ∀ k, (ek k).nk = some (nkk k)
  hash : ∀ k, (nkk k).hash w = knd.hash k
  inj : ∀ {k j}, nkk k = nkk j → k = j
theorem kx_int (P : Program) (w : World) : KX P w (intKind P w) D.int V.int NestedKey.num :=
  ⟨fun h => by cases h; rfl, fun _ k => .int k, fun {k u} h => by obtain ⟨t, rfl⟩ := h; exact intKind_is P w k t, fun {k u} h => by obtain ⟨t, rfl⟩ := Value.isInt_shape h; exact ⟨t, rfl⟩, fun _ => rfl, fun _ => rfl, fun h => by injection h⟩
theorem kx_str (P : Program) (w : World) : KX P w (strKind P w) D.str V.str NestedKey.text :=
  ⟨fun h => by cases h; rfl, fun _ k => .str k, fun {k u} h => by obtain ⟨t, rfl⟩ := h; exact (show (k == k) = true from beq_self_eq_true k), fun {k u} h => by obtain ⟨t, rfl⟩ := Value.isStrOf_shape h; exact ⟨t, rfl⟩, fun _ => rfl, fun _ => rfl, fun h => by injection h⟩
section
variable {P : Program} {w : World} {G G' H : Hp} {K : Type} [DecidableEq K] {knd : KeyKind P w K} {ek : K → D} {vk : K → V} {nkk : K → NestedKey}
/-- values beside data -/
inductive RP (w : World) (G : Hp) (ek : K → D) : List (K × Value) → List (D × D) → Prop
  | nil : RP w G ek [] []
  | cons {k : K} {u : Value} {v : V} {d : D} {r : List (K × Value)} {ds : List (D × D)} : Dt w G v d → RelV v u → RP w G ek r ds → RP w G ek ((k, u) :: r) ((ek k, d) :: ds)
theorem KX.eq (x : KX P w knd ek vk nkk) (k j : K) : nkEq (ek k) (ek j) = decide (k = j) := by
  unfold nkEq
  rw [x.nk, x.nk]
  by_cases h : k = j
  · subst h; simp
  · rw [decide_eq_false h, decide_eq_false]
    intro e
    exact h (x.inj (Option.some.inj e))
theorem RP.any (x : KX P w knd ek vk nkk) (k : K) : ∀ {zs : List (K × Value)} {ds : List (D × D)}, RP w G ek zs ds → (zs.any fun kv => decide (kv.1 = k)) = (ds.any fun p => nkEq p.1 (ek k))
  | _, _, .nil => rfl
  | _, _, .cons _ _ r => by
    rw [List.any_cons, List.any_cons, RP.any x k r, x.eq]
theorem RP.map (x : KX P w knd ek vk nkk) {k : K} {v : V} {d : D} {u : Value} (h1 : Dt w G v d) (h2 : RelV v u) : ∀ {zs : List (K × Value)} {ds : List (D × D)}, RP w G ek zs ds →
    RP w G ek (zs.map fun kv => if kv.1 = k then (kv.1, u) else kv) (ds.map fun p => if nkEq p.1 (ek k) = true then (p.1, d) else p)
  | _, _, .nil => .nil
  | _, _, .cons (k := j) a b r => by
    rw [List.map_cons, List.map_cons]
    simp only [x.eq]
    by_cases h : j = k
    · rw [if_pos h, if_pos (by simpa using h)]
      exact .cons h1 h2 (RP.map x h1 h2 r)
    · rw [if_neg h, if_neg (by simpa using h)]
      exact .cons a b (RP.map x h1 h2 r)
theorem RP.app {k : K} {v : V} {d : D} {u : Value} (h1 : Dt w G v d) (h2 : RelV v u) : ∀ {zs : List (K × Value)} {ds : List (D × D)}, RP w G ek zs ds → RP w G ek (zs ++ [(k, u)]) (ds ++ [(ek k, d)])
  | _, _, .nil => .cons h1 h2 .nil
  | _, _, .cons a b r => .cons a b (RP.app h1 h2 r)
theorem RP.put (x : KX P w knd ek vk nkk) {k : K} {v : V} {d : D} {u : Value} {zs : List (K × Value)} {ds : List (D × D)} (r : RP w G ek zs ds) (h1 : Dt w G v d) (h2 : RelV v u) : RP w G ek (stored zs k u) (dput ds (ek k) d) := by
  unfold stored dput
  rw [← r.any x k]
  split
  · exact RP.map x h1 h2 r
  · exact RP.app h1 h2 r
theorem RP.mrg (x : KX P w knd ek vk nkk) : ∀ {ms : List (K × Value)} {es : List (D × D)} {zs : List (K × Value)} {ds : List (D × D)}, RP w G ek zs ds → RP w G ek ms es → RP w G ek (merged zs ms) (dmrg ds es)
  | _, _, zs, ds, r, .nil => r
  | _, _, zs, ds, r, .cons (k := k) (u := u) (d := d) (r := ms) (ds := es) a b m => by
    have r' := RP.mrg x (zs := stored zs k u) (ds := dput ds (ek k) d) (r.put x a b) m
    exact r'
theorem RP.get (x : KX P w knd ek vk nkk) (k : K) : ∀ {zs : List (K × Value)} {ds : List (D × D)}, RP w G ek zs ds → (valueAt zs k = none ∧ dget ds (ek k) = none) ∨ ∃ u v d, valueAt zs k = some u ∧ dget ds (ek k) = some d ∧ RelV v u ∧ Dt w G v d
  | _, _, .nil => .inl ⟨rfl, rfl⟩
  | _, _, .cons (k := j) (u := u) (v := v) (d := d) a b r => by
    unfold valueAt dget
    by_cases h : j = k
    · refine .inr ⟨u, v, d, ?_, ?_, b, a⟩
      · rw [List.find?_cons_of_pos (by simpa using h)]; rfl
      · rw [List.find?_cons_of_pos (by simp [x.eq, h])]; rfl
    · rw [List.find?_cons_of_neg (by simpa using h), List.find?_cons_of_neg (by simp [x.eq, h])]
      exact RP.get x k r
theorem RP.length : ∀ {zs : List (K × Value)} {ds : List (D × D)}, RP w G ek zs ds → zs.length = ds.length
  | _, _, .nil => rfl
  | _, _, .cons _ _ r => congrArg (· + 1) (RP.length r)
theorem RP.keys : ∀ {zs : List (K × Value)} {ds : List (D × D)}, RP w G ek zs ds → ds.map (·.1) = (zs.map (·.1)).map ek
  | _, _, .nil => rfl
  | _, _, .cons _ _ r => by
    rw [List.map_cons, List.map_cons, List.map_cons, RP.keys r]
theorem RP.nodup (x : KX P w knd ek vk nkk) {zs : List (K × Value)} {ds : List (D × D)} (r : RP w G ek zs ds) (h : (ds.map fun p => p.1.nk).Nodup) : (zs.map (·.1)).Nodup := by
  have e : (ds.map fun p => p.1.nk) = (zs.map (·.1)).map fun k => some (nkk k) := by
    have := congrArg (List.map D.nk) r.keys
    rw [List.map_map, List.map_map] at this
    rw [show (ds.map fun p => p.1.nk) = ds.map (D.nk ∘ fun x => x.1) from rfl, this]
    refine List.map_congr_left fun k _ => x.nk k
  rw [e] at h
  refine (List.pairwise_map.mp h).imp fun {a b} hne hab => hne (by rw [hab])
/-- the entries as they stand -/
def EntR (x : Int × V × V) (e : DictEntry) : Prop := e.hash = x.1 ∧ RelV x.2.1 e.key ∧ RelV x.2.2 e.val
theorem to_entries (x : KX P w knd ek vk nkk) {el : List DictEntry} {zs : List (K × Value)} (pr : Pairs knd el zs) : ∀ {ds : List (D × D)}, (∀ e ∈ el, ∃ k, knd.is k e.key = true ∧ e.hash = knd.hash k) → RP w G ek zs ds →
    ∃ L, Paired EntR L el ∧ DtE w G L ds := by
  induction pr with
  | nil =>
    intro ds _ r
    cases r
    exact ⟨[], .nil, .nil⟩
  | cons h1 h2 pr ih =>
    intro ds hk r
    cases r with
    | cons a b r =>
      rename_i e es kvs k u v d ds
      obtain ⟨L, p1, p2⟩ := ih (fun e he => hk e (List.mem_cons_of_mem _ he)) r
      obtain ⟨k', q1, q2⟩ := hk _ List.mem_cons_self
      have ek' := knd.inj _ _ _ q1 h1
      have ek' : k' = k := ek'
      subst ek'
      exact ⟨((nkk k').hash w, vk k', v) :: L, .cons ⟨by rw [q2, x.hash], x.rel h1, by rw [h2]; exact b⟩ p1, .cons (x.nk _) (x.of_v G _) a p2⟩
theorem of_entries (x : KX P w knd ek vk nkk) {L : List (Int × V × V)} {el : List DictEntry} (pr : Paired EntR L el) : ∀ {ds : List (D × D)}, DtE w G L ds → (∀ p ∈ ds, ∃ k, p.1 = ek k) →
    ∃ zs, Pairs knd el zs ∧ (∀ e ∈ el, ∃ k, knd.is k e.key = true ∧ e.hash = knd.hash k) ∧ RP w G ek zs ds := by
  induction pr with
  | nil =>
    intro ds r _
    cases r
    exact ⟨[], .nil, (fun _ h => by cases h), .nil⟩
  | cons h pr ih =>
    intro ds r hk
    cases r with
    | cons q a b r =>
      rename_i e L el kv vv dk dv nk ds
      obtain ⟨zs, p1, p2, p3⟩ := ih r fun p hp => hk p (List.mem_cons_of_mem _ hp)
      obtain ⟨k, ek'⟩ := hk _ List.mem_cons_self
      simp only at ek'
      subst ek'
      rw [x.nk] at q
      cases q
      cases x.v_of a
      refine ⟨(k, e.val) :: zs, .cons (x.is_ h.2.1) rfl p1, fun e' he => ?_, .cons b h.2.2 p3⟩
      rcases List.mem_cons.mp he with z | z
      · subst z
        exact ⟨k, x.is_ h.2.1, by rw [h.1, x.hash]⟩
      · exact p2 e' z
theorem to_dic (x : KX P w knd ek vk nkk) {h : Heap} {p : Addr} {zs : List (K × Value)} {ds : List (D × D)} (hd : h.DictOf knd p zs) (r : RP w G ek zs ds) : ∃ L ob, DtE w G L ds ∧ h.get? p = some ob ∧ ∀ H, ObjOk P w H h p (dicO p L) := by
  obtain ⟨o, es, ep, hg, ⟨c1, c2, c3⟩, he, hk, pr, _⟩ := hd
  obtain ⟨L, p1, p2⟩ := to_entries x pr (fun e he => hk e (by simpa using he)) r
  refine ⟨L, o, p2, hg, fun H => ⟨⟨es, ep, ?_, p1⟩, ⟨o, hg⟩, fun h1 h2 ⟨es', ep', g, r⟩ k => ⟨es', ep', k _ g, r⟩⟩⟩
  rw [hg]
  obtain ⟨o1, o2, o3, o4⟩ := o
  cases c1; cases c2; cases c3; cases he
  rfl
theorem of_dic (x : KX P w knd ek vk nkk) {h : Heap} {p : Addr} {L : List (Int × V × V)} {ds : List (D × D)} (ok : ObjOk P w H h p (dicO p L)) (r : DtE w G L ds) (hk : ∀ p ∈ ds, ∃ k, p.1 = ek k) (hn : (ds.map fun p => p.1.nk).Nodup) :
    ∃ zs, h.DictOf knd p zs ∧ RP w G ek zs ds := by
  obtain ⟨⟨es, ep, g, pr⟩, _, _⟩ := ok
  obtain ⟨zs, p1, p2, p3⟩ := of_entries x (el := es.toList) pr r hk
  exact ⟨zs, ⟨_, es, ep, g, ⟨rfl, rfl, rfl⟩, rfl, fun e he => p2 e (by simpa using he), p1, p3.nodup x hn⟩, p3⟩
end
/-! ### dict views -/
/-- d is a dict of kvs: a datum or ours -/
inductive DV (M : Mem) : D → List (D × D) → Prop
  | dat {kvs : List (D × D)} : DV M (.dic kvs) kvs
  | own {p : Addr} {kvs : List (D × D)} (j : Nat) (h : M[j]? = some (some (p, .dic kvs)) := by rfl) : DV M (.ref p) kvs
section
variable {w : World} {T : List Addr} {G H : Hp} {M : Mem} {v : V} {d : D}
theorem DV.get {kvs : List (D × D)} (l : DV M d kvs) (hs : HS w T G H M) (r : Dt w G v d) : ∃ a L, v = .ref a ∧ Rd H a (dicO a L) ∧ DtE w G L kvs ∧ DicOk a kvs := by
  cases l with
  | dat =>
    cases r with
    | dic e r k => exact ⟨_, _, rfl, .inr ⟨_, hs.sub _ _ e⟩, r, k⟩
  | own j h =>
    cases r
    obtain ⟨_, L, e, r, k⟩ := hs.mem _ _ (mem_of h)
    exact ⟨_, L, rfl, .inl e, r, k⟩
end
theorem _root_.L2.Inv.notMod {X : Cx} {pins : List (Addr × Obj)} {σ : L2.St} {H : Hp} {s : Shared} (I : L2.Inv X pins σ H s) : (s.heap.objs.size == sysModules) = false := by
  have := modules_low I.nolimit
  exact beq_false_of_ne (Nat.ne_of_gt this)
def eI (p : Int × D) : D × D := (.int p.1, p.2)
def eS (p : Str × D) : D × D := (.str p.1, p.2)
theorem kok_int (ps : List (Int × D)) : KOk (ps.map eI) :=
  ⟨⟨.i, fun p hp => by obtain ⟨q, _, rfl⟩ := List.mem_map.mp hp; rfl⟩, fun p hp => by obtain ⟨q, _, rfl⟩ := List.mem_map.mp hp; exact ⟨_, rfl, Nat.zero_le _⟩⟩
theorem kok_str (ps : List (Str × D)) : KOk (ps.map eS) :=
  ⟨⟨.s, fun p hp => by obtain ⟨q, _, rfl⟩ := List.mem_map.mp hp; rfl⟩, fun p hp => by obtain ⟨q, _, rfl⟩ := List.mem_map.mp hp; exact ⟨_, rfl, Nat.zero_le _⟩⟩
/-! ### dict(d) -/
section
variable {X : Cx} {T : List Addr} {ρ : List (Option D)} {M M1 M2 M3 : Mem} {d da db : D} {a b c e o : Expr} {pos p : Pos} {ds : List D}
theorem call_dict_copy {K : Type} [DecidableEq K] {knd : KeyKind X.prog X.w K} {ek : K → D} {vk : K → V} {nkk : K → NestedKey} (x : KX X.prog X.w knd ek vk nkk) :
    CallR X (.type "dict") (fun vs H Q => ∃ (a : Addr) (L : List (Int × V × V)) (kvs : List (D × D)) (G : Hp), vs = [.ref a] ∧ Rd H a (dicO a L) ∧ DtE X.w G L kvs ∧ DicOk a kvs ∧ (∀ p ∈ kvs, ∃ k, p.1 = ek k) ∧
      ∀ q L' ob, H q = none → (q == sysModules) = false → DtE X.w G L' kvs → Q (.ref q) (upd H q (.frz ob (dicO q L')))) := by
  intro pins s σ H vs us Q I rs ⟨a, L, kvs, G, e, hH, hE, hD, hk, k⟩
  subst e
  obtain ⟨u, rfl, ru⟩ := vals1 rs
  cases ru
  obtain ⟨zs, hd, rp⟩ := of_dic x (rd_ok I hH) hE hk hD.nd
  refine PySem.kt_call_dict hD.sys hd (by rw [rp.length]; exact hD.len) fun h' hd' sb => ?_
  obtain ⟨L', ob, hE', gob, hok⟩ := to_dic x hd' rp
  have keep : ∀ b o, s.heap.get? b = some o → h'.get? b = some o := fun b o e => sb.extBut b o (Nat.ne_of_lt (Heap.lt_size e)) (Heap.get?_push_of_some _ e)
  exact ⟨.ref _, _, I.laid (o := .frz ob (dicO s.heap.objs.size L')) (t' := s.toks) keep (Nat.le_refl _) ⟨gob, hok _⟩, rfl, k _ L' ob (I.hok.fresh (Nat.le_refl _)) I.notMod hE'⟩
theorem pd_dictD {ps : List (Int × D)} (l : DV M1 da (ps.map eI)) (hm : X.mg "dict" = none) (ha : PD X T ρ M a da M1) (hg : Gl X "dict" := by rfl) (he : starEach [a] X.env = (false, eval a X.env) :: starEach [] X.env := by rfl) :
    PD X T ρ M (.Call (.Name "dict" p) [a] [] pos) (.dic (ps.map eI)) M1 :=
  pd_callT (call_dict_copy (kx_int _ _)) (fun G H vs Q hs r k => by
    obtain ⟨v, rfl, rr⟩ := r.one
    obtain ⟨q, L, rfl, e, hE, hD⟩ := l.get hs rr
    refine ⟨q, L, _, G, rfl, e, hE, hD, fun p hp => by obtain ⟨z, _, rfl⟩ := List.mem_map.mp hp; exact ⟨z.1, rfl⟩, fun q' L' ob hq hsy hE' => ?_⟩
    refine k _ _ _ (Step.newI hs hq) (hs.new hq fun _ z => by cases z) (.dic upd_same (hE'.up (up_upd (hs.freshG hq))) ⟨hsy, hD.len, hD.nd, hD.kind, hD.dep⟩)) hm (by decide +kernel) (pdl_1 ha he) hg (by decide) (by decide) he
end
end LW

set_option Elab.async false
set_option linter.all false
set_option maxRecDepth 100000
set_option maxHeartbeats 4000000
/-! LK: dict(enumerate(..)), dict([..]), the dict's methods. -/
namespace LW
open PySem PySem.Spec PyProof.Rows L2
open Sem (wp)
section
variable {prog : Program} {w : World} {A : Around} {E : Value → Shared → Prop} {s : Shared}
/-- enumerate's next while its tuple is still out -/
theorem enum_heldD {e it T : Addr} {fp : List Addr} {n i : Nat} {c : Int} {Pq : Nat → Value → Prop} {St : Nat → Heap → Prop} {old : Value} {f : Bool} {oT : Obj} {Q : Value → Shared → Prop} (D : Draws prog w A it fp n Pq St)
    (he : IsEnumHeld s.heap e it c old T f) (hT : s.heap.get? T = some oT) (hTe : T ≠ e) (hTi : T ≠ it) (hst : St i s.heap) (hlt : i < n) (hne : e ≠ it) (hef : e ∉ fp)
    (hQ : ∀ x h' tk, Pq i x → IsEnumHeld h' e it (c + 1) old T true → St (i + 1) h' → h'.get? s.heap.objs.size = some { cls := .type "tuple", data := .seq #[.int c tk, x] } →
      (∀ b o, b ≠ e → b ≠ it → s.heap.get? b = some o → h'.get? b = some o) → Q (.ref s.heap.objs.size) { s with heap := h', toks := tk + 1 }) :
    wpAny (model prog w) A (Builtin.«enumerate.__next__» ⟨[.ref e], []⟩) (fun fin s' => ∃ v, fin = .done (.ret v) ∧ Q v s') E s := by
  obtain ⟨hp, g, d, tk₀, os⟩ := s
  show wpAny _ _ (field (.ref e) 2 >>= _) _ _ _
  refine wpAny_bind (wpAny_field he rfl (x := .ref it) rfl ?_)
  refine wpAny_bind (D.item i _ _ _ hlt hst fun x h₁ tk hPx hit₁ hs₁ => ?_)
  replace hs₁ : Heap.SameBut it hp h₁ := hs₁
  have he₁ : IsEnumHeld h₁ e it c old T f := (hs₁.2 e hne).trans he
  show wpAny _ _ (field (.ref e) 3 >>= _) _ _ ⟨h₁, g, d, tk, os⟩
  refine wpAny_bind (wpAny_field he₁ rfl (x := rawInt c) rfl ?_)
  show wpAny _ _ (field (.ref e) 4 >>= _) _ _ ⟨h₁, g, d, tk, os⟩
  refine wpAny_bind (wpAny_field he₁ rfl (x := .none) rfl ?_)
  show wpAny _ _ (mkInt c >>= _) _ _ ⟨h₁, g, d, tk, os⟩
  refine wpAny_bind (wpAny_mkInt ?_)
  show wpAny _ _ (setField (.ref e) 3 (rawInt (c + 1)) >>= _) _ _ ⟨h₁, g, d, tk + 1, os⟩
  refine wpAny_bind (wpAny_setField_rec he₁ (by simp) fun h₂ he₂ hs₂ => ?_)
  replace hs₂ : Heap.SameBut e h₁ h₂ := hs₂
  replace he₂ : IsEnumHeld h₂ e it (c + 1) old T f := he₂
  show wpAny _ _ (setField (.ref e) 4 .none >>= _) _ _ ⟨h₂, g, d, tk + 1, os⟩
  refine wpAny_bind (wpAny_setField_rec he₂ (by simp) fun h₃ he₃ hs₃ => ?_)
  replace hs₃ : Heap.SameBut e h₂ h₃ := hs₃
  replace he₃ : IsEnumHeld h₃ e it (c + 1) old T f := he₃
  show wpAny _ _ (newTuple [.int c tk, x] >>= _) _ _ ⟨h₃, g, d, tk + 1, os⟩
  refine wpAny_bind (wpAny_newTuple ?_)
  have he₄ : IsEnumHeld (h₃.push { cls := .type "tuple", data := .seq #[.int c tk, x] }) e it (c + 1) old T f := Heap.get?_push_of_some _ he₃
  generalize hh₄ : h₃.push { cls := .type "tuple", data := .seq #[.int c tk, x] } = h₄ at he₄
  have hsz : h₃.objs.size = hp.objs.size := by rw [hs₃.1, hs₂.1, hs₁.1]
  have hel : e < hp.objs.size := Heap.lt_size he
  have ht₄ : h₄.get? hp.objs.size = some { cls := .type "tuple", data := .seq #[.int c tk, x] } := by rw [← hh₄, ← hsz]; exact Heap.get?_push_size _ rfl
  have hk₄ : ∀ b o, b ≠ e → b ≠ it → hp.get? b = some o → h₄.get? b = some o := fun b o hbe hbi hb => by
    rw [← hh₄]; exact Heap.get?_push_of_some _ (hs₃.extBut b o hbe (hs₂.extBut b o hbe (hs₁.extBut b o hbi hb)))
  have hit₄ : St (i + 1) h₄ := D.frame _ _ _ hit₁ fun b hb o y => by
    have hbe : b ≠ e := fun q => hef (q ▸ hb)
    rw [← hh₄]; exact Heap.get?_push_of_some _ (hs₃.extBut b o hbe (hs₂.extBut b o hbe y))
  show wpAny _ _ (Builtin.SmallTypes.ownedTupleIsFree (.ref e) >>= _) _ _ ⟨h₄, g, d, tk + 1, os⟩
  rw [hsz]
  refine wpAny_bind (wpAny_tupleHeld_enum (s := ⟨h₄, g, d, tk + 1, os⟩) he₄ (hk₄ T oT hTe hTi hT) fun h₅ he₅ hs₅ => ?_)
  replace hs₅ : Heap.SameBut e h₄ h₅ := hs₅
  simp only [Bool.false_eq_true, if_false]
  exact wpAny_pure ⟨_, rfl, hQ x h₅ tk hPx he₅ (D.frame _ _ _ hit₄ fun b hb o y => hs₅.extBut b o (fun q => hef (q ▸ hb)) y) (hs₅.extBut _ _ (Nat.ne_of_gt hel) ht₄) fun b o hbe hbi hb => hs₅.extBut b o hbe (hk₄ b o hbe hbi hb)⟩
theorem enum_held_item {e it T : Addr} {fp : List Addr} {n i : Nat} {c : Int} {Pq : Nat → Value → Prop} {St : Nat → Heap → Prop} {old : Value} {f : Bool} {oT : Obj} {Q : Option Value → Shared → Prop} (D : Draws prog w A.in1 it fp n Pq St)
    (he : IsEnumHeld s.heap e it c old T f) (hT : s.heap.get? T = some oT) (hTe : T ≠ e) (hTi : T ≠ it) (hst : St i s.heap) (hlt : i < n) (hne : e ≠ it) (hef : e ∉ fp)
    (hQ : ∀ x h' tk, Pq i x → IsEnumHeld h' e it (c + 1) old T true → St (i + 1) h' → h'.get? s.heap.objs.size = some { cls := .type "tuple", data := .seq #[.int c tk, x] } →
      (∀ b o, b ≠ e → b ≠ it → s.heap.get? b = some o → h'.get? b = some o) → Q (some (.ref s.heap.objs.size)) { s with heap := h', toks := tk + 1 }) : wpAny (model prog w) A (pyNext (.ref e)) Q E s := by
  have hTy : s.TypeIs (.ref e) "enumerate" := ⟨_, he, rfl⟩
  unfold pyNext
  exact wpAny_bind (wpAny_attempt (wpAny_callSpecial?_slot (name := Str.ofString "__next__") hTy F.slot_enumerate_next
    (wpAny_call_entry F.slot_enumerate_next hTy F.entry_enumerate_next
      (enum_heldD D he hT hTe hTi hst hlt hne hef fun x h' tk a1 a2 a3 a4 a5 => wpAny_pure (hQ x h' tk a1 a2 a3 a4 a5)) (F.args_enumerate_next_1 _))))
theorem enum_held_end {e it T : Addr} {fp : List Addr} {n : Nat} {c : Int} {Pq : Nat → Value → Prop} {St : Nat → Heap → Prop} {old : Value} {f : Bool} {Q : Option Value → Shared → Prop} (D : Draws prog w A.in1 it fp n Pq St)
    (he : IsEnumHeld s.heap e it c old T f) (hst : St n s.heap) (hQ : ∀ h', Heap.ExtBut it s.heap h' → Q none { s with heap := h' }) : wpAny (model prog w) A (pyNext (.ref e)) Q E s := by
  have hTy : s.TypeIs (.ref e) "enumerate" := ⟨_, he, rfl⟩
  unfold pyNext
  refine wpAny_bind (wpAny_attempt (wpAny_callSpecial?_slot (name := Str.ofString "__next__") hTy F.slot_enumerate_next
    (wpAny_call_entry F.slot_enumerate_next hTy F.entry_enumerate_next ?_ (F.args_enumerate_next_1 _))))
  show wpAny _ _ (field (.ref e) 2 >>= _) _ _ _
  refine wpAny_bind (wpAny_field he rfl (x := .ref it) rfl ?_)
  refine wpAny_bind (D.done _ _ _ hst fun h' x he' hx' => ?_)
  obtain ⟨o, ho, hc⟩ := hx'
  refine wpAny_bind (wpAny_isInstance (T := "StopIteration") (b := true) ⟨o, ho, hc⟩ isSubtype_stop ?_)
  exact wpAny_pure (hQ _ he')
end
theorem pairArg_enum {prog : Program} {w : World} {e it : Addr} {fp : List Addr} {n : Nat} {Pq : Nat → Value → Prop} {St : Nat → Heap → Prop} (D : ∀ A : Around, A.handled = none → Draws prog w A it fp n Pq St) (hne : e ≠ it) (hef : e ∉ fp) (hif : it ∈ fp)
    (hobj : ∀ h, St 0 h → ∀ b ∈ fp, ∃ o, h.get? b = some o) :
    PairArg prog w "enumerate" e (e :: fp) [e, it] n (fun i k v => (∃ t, k = .int (i : Nat) t) ∧ Pq i v) (fun h => (∃ old, IsEnum h e it 0 old) ∧ St 0 h) where
  type := fun s ok => let ⟨⟨_, he⟩, _⟩ := ok; ⟨_, he, rfl⟩
  notDict := by decide
  keep := fun h h' ok hk => by
    obtain ⟨⟨old, he⟩, hst⟩ := ok
    exact ⟨⟨old, hk _ _ he⟩, (D ⟨none, 0, none, none, 0⟩ rfl).frame _ _ _ hst fun b _ o x => hk _ o x⟩
  there := fun h ok b hb => by
    obtain ⟨⟨old, he⟩, hst⟩ := ok
    rcases List.mem_cons.mp hb with z | z
    · rw [z]; exact ⟨_, he⟩
    · exact hobj h hst b z
  sub := fun b hb => by
    simp only [List.mem_cons, List.not_mem_nil, or_false] at hb
    rcases hb with rfl | rfl
    · exact List.mem_cons_self
    · exact List.mem_cons_of_mem _ hif
  noKeys := fun A s Q E hA ok h => let ⟨⟨_, he⟩, _⟩ := ok; getAttrOr_miss_enumerate he rfl rfl rfl enumerate_no_keys (by decide +kernel) hA h
  iter := fun A s d Q E hA ok hd hdf h => by
    obtain ⟨⟨old, he⟩, hst⟩ := ok
    have de : d ≠ e := fun z => hdf (z ▸ List.mem_cons_self)
    have dfp : d ∉ fp := fun z => hdf (List.mem_cons_of_mem _ z)
    have dit : d ≠ it := fun z => dfp (z ▸ hif)
    refine wpAny_pyIter_enum he (h e [e, it] (fun i h => St i h ∧ ((∃ old, IsEnum h e it (i : Nat) old) ∨ ∃ old T f oT, IsEnumHeld h e it (i : Nat) old T f ∧ h.get? T = some oT ∧ T ≠ e ∧ T ≠ it ∧ T ≠ d)) s.heap s.toks ?_
      ⟨hst, .inl ⟨old, he⟩⟩ (fun _ _ e => e) fun b hb => .inl hb)
    have DA := D A.in1 hA
    exact {
      off := fun hm => by
        simp only [List.mem_cons, List.not_mem_nil, or_false] at hm
        rcases hm with x | x
        · exact de x
        · exact dit x
      frame := fun i h₁ h₂ st hk => by
        obtain ⟨hst, he⟩ := st
        refine ⟨DA.frame _ _ _ hst fun b hb o x => hk b o (fun z => dfp (z ▸ hb)) x, ?_⟩
        rcases he with ⟨old, he⟩ | ⟨old, T, f, oT, he, hT, r1, r2, r3⟩
        · exact .inl ⟨old, hk _ _ (Ne.symm de) he⟩
        · exact .inr ⟨old, T, f, oT, hk _ _ (Ne.symm de) he, hk _ _ r3 hT, r1, r2, r3⟩
      item := fun i s₁ Q₁ E₁ hi st hds hQ => by
        obtain ⟨hst, he⟩ := st
        have ec : ((i + 1 : Nat) : Int) = (i : Int) + 1 := by omega
        have nit : s₁.heap.objs.size ≠ it := let ⟨_, x⟩ := DA.live _ _ hst; Nat.ne_of_gt (Heap.lt_size x)
        rcases he with ⟨old, he⟩ | ⟨old, T, f, oT, he, hT, r1, r2, r3⟩
        · refine wpAny_pyNext_enum_itemC DA he hst hi hne hef fun x h' tk hP ho st' hT hsz hk => ?_
          exact hQ s₁.heap.objs.size _ _ h' (tk + 1) ⟨⟨_, rfl⟩, hP⟩ (.inl ⟨_, hT, rfl, _, rfl⟩)
            ⟨st', .inr ⟨_, s₁.heap.objs.size, false, _, (by rw [ec]; exact ho), hT, Nat.ne_of_gt (Heap.lt_size he), nit, Nat.ne_of_gt hds⟩⟩
            fun b o hb x => hk b o (fun y => hb (by simp [y])) (fun y => hb (by simp [y])) x
        · refine enum_held_item DA he hT r1 r2 hst hi hne hef fun x h' tk hP ho st' hT' hk => ?_
          exact hQ s₁.heap.objs.size _ _ h' (tk + 1) ⟨⟨_, rfl⟩, hP⟩ (.inl ⟨_, hT', rfl, _, rfl⟩)
            ⟨st', .inr ⟨old, T, true, oT, (by rw [ec]; exact ho), hk _ _ r1 r2 hT, r1, r2, r3⟩⟩
            fun b o hb x => hk b o (fun y => hb (by simp [y])) (fun y => hb (by simp [y])) x
      done := fun s₁ Q₁ E₁ st hQ => by
        obtain ⟨hst, he⟩ := st
        rcases he with ⟨old, he⟩ | ⟨old, T, f, oT, he, hT, r1, r2, r3⟩
        · exact wpAny_pyNext_enum_endD DA he hst fun h' hk => hQ h' s₁.toks fun b o hb x => hk b o (fun y => hb (by simp [y])) x
        · exact enum_held_end DA he hst fun h' hk => hQ h' s₁.toks fun b o hb x => hk b o (fun y => hb (by simp [y])) x }
section
variable {X : Cx} {T : List Addr} {ρ : List (Option D)} {M M1 M2 M3 : Mem} {d da db : D} {a b c e o : Expr} {pos p p2 pos2 : Pos} {ds : List D}
def iota (as : List D) : List (Int × D) := (List.range as.length).zip as |>.map fun q => ((q.1 : Nat), q.2)
theorem iota_get {as : List D} {i : Nat} {d : D} (h : as[i]? = some d) : (iota as)[i]? = some (((i : Nat) : Int), d) := by
  have hl : i < as.length := (List.getElem?_eq_some_iff.mp h).1
  unfold iota
  have e : ((List.range as.length).zip as)[i]? = some (i, d) := List.getElem?_zip_eq_some.mpr ⟨List.getElem?_range hl, h⟩
  rw [List.getElem?_map, e]
  rfl
theorem iota_length {as : List D} : (iota as).length = as.length := by simp [iota]
/-- numbered values beside numbered data -/
theorem rp_iota {w : World} {G : Hp} : ∀ {xs : List V} {us : List Value} {as : List D}, Vals xs us → DtL w G xs as → ∀ n : Nat,
    RP w G D.int ((List.range' n us.length).zip us |>.map fun q => (((q.1 : Nat) : Int), q.2)) ((List.range' n as.length).zip as |>.map fun q => eI (((q.1 : Nat) : Int), q.2))
  | _, _, _, .nil, .nil, n => .nil
  | _, _, _, .cons r rs, .cons q qs, n => by
    show RP w G D.int (((n : Nat), _) :: _) ((D.int (n : Nat), _) :: _)
    exact .cons q r (rp_iota rs qs (n + 1))
theorem iota_eI {as : List D} : ((List.range' 0 as.length).zip as |>.map fun q => eI (((q.1 : Nat) : Int), q.2)) = (iota as).map eI := by
  unfold iota
  rw [List.map_map, List.range_eq_range']
  rfl
/-- the pairs put one behind the other -/
theorem pe_dictEnum {te : TE} (hm : X.mg "dict" = none) (hm2 : X.mg "enumerate" = none) (he : PE X e te) (hc : X.calm = true) (hg : Gl X "dict") (hg2 : Gl X "enumerate")
    (hs : starEach [.Call (.Name "enumerate" p2) [e] [] pos2] X.env = [(false, eval (.Call (.Name "enumerate" p2) [e] [] pos2) X.env)] := by rfl) (hs2 : starEach [e] X.env = [(false, eval e X.env)] := by rfl) :
    PE X (.Call (.Name "dict" p) [.Call (.Name "enumerate" p2) [e] [] pos2] [] pos) (fun σ H Q => te σ H fun v H1 => ∃ (a : Addr) (xs : List V) (as : List D) (G : Hp), v = .ref a ∧ H1 a = some (.tup xs) ∧ DtL X.w G xs as ∧ as.length ≤ sizeLine ∧
      ∀ q L ob, H1 q = none → (q == sysModules) = false → DtE X.w G L (dmrg [] ((iota as).map eI)) → Q (.ref q) (upd H1 q (.frz ob (dicO q L)))) := by
  refine ⟨fun pins s σ H Q I h => ?_⟩
  refine wpAny_Call_Name_kw (ld_blt I hg hm (u := .type "dict") (by decide +kernel) ?_)
  refine PyProof.Rows.callWith_type1 ?_ hs rfl
  rw [hs]
  refine Calls.spliced_cons ?_
  refine wpAny_Call_Name_kw (ld_blt I hg2 hm2 boot_enumerate ?_)
  refine PyProof.Rows.callWith_type1 ?_ hs2 rfl
  rw [hs2]
  refine Calls.spliced_cons (thn (he.run pins s σ H _ I h) fun u s1 ⟨v, H1, I1, r1, a, xs, as, G, ev, hH, hx, hl, k⟩ => ?_)
  subst ev
  cases r1
  refine Calls.spliced_nil ?_
  obtain ⟨us, r, pt, _⟩ := I1.tuple (.inl (.inl hH))
  have hd : X.A.handled = none := I1.ok.hd hc
  have hal : a < s1.heap.objs.size := let ⟨_, e', _⟩ := pt; Heap.lt_size e'
  refine enum1_begins (begins_tuple a us.toArray) pt fun h' hen hit hsz hk => ?_
  refine Calls.spliced_nil ?_
  have na : a ≠ s1.heap.objs.size := Nat.ne_of_lt hal
  have PA := pairArg_enum (prog := X.prog) (w := X.w) (e := s1.heap.objs.size + 1) (it := s1.heap.objs.size) (fun A hA => Draws.tuple hA s1.heap.objs.size a na us.toArray) (Nat.succ_ne_self _) (fun z => by
    simp only [List.mem_cons, List.not_mem_nil, or_false] at z
    rcases z with z | z
    · exact Nat.succ_ne_self _ z
    · rw [← z] at hal; exact absurd hal (Nat.not_lt_of_le (Nat.le_succ _))) List.mem_cons_self (fun h st b hb => by
    simp only [List.mem_cons, List.not_mem_nil, or_false] at hb
    obtain ⟨⟨o1, q1, _⟩, ⟨o2, q2, _⟩⟩ := st
    rcases hb with rfl | rfl
    · exact ⟨_, q1⟩
    · exact ⟨_, q2⟩)
  have lus : us.toArray.size = as.length := by rw [List.size_toArray, ← r.length, hx.length]
  have rp := rp_iota r hx 0
  rw [iota_eI] at rp
  refine call_dict_pairs (knd := intKind X.prog X.w) (kvs := (List.range' 0 us.length).zip us |>.map fun q => (((q.1 : Nat) : Int), q.2)) PA hd ⟨⟨_, hen⟩, ⟨_, hit, rfl, rfl⟩, ?_⟩ ⟨?_, ?_⟩ (by rw [lus]; exact hl) ?_
  · obtain ⟨o, e', c, dd⟩ := pt
    exact ⟨o, hk _ _ e', c, dd⟩
  · simp
  · rintro i key v ⟨⟨t, rfl⟩, hv⟩
    refine ⟨(i : Nat), ?_, intKind_is _ _ _ _⟩
    rw [List.getElem?_toArray] at hv
    have hi : i < us.length := (List.getElem?_eq_some_iff.mp hv).1
    have e : ((List.range' 0 us.length).zip us)[i]? = some (i, v) := List.getElem?_zip_eq_some.mpr ⟨by rw [← List.range_eq_range']; exact List.getElem?_range hi, hv⟩
    rw [List.getElem?_map, e]
    rfl
  · intro h2 tk2 hd2 hk2
    have rm := RP.mrg (kx_int X.prog X.w) (zs := []) (ds := []) .nil rp
    obtain ⟨L, ob, hE, gob, hok⟩ := to_dic (kx_int X.prog X.w) hd2 rm
    have keep : ∀ b o, s1.heap.get? b = some o → h2.get? b = some o := fun b o e' => hk2 b o (fun z => by
      simp only [List.mem_cons, List.not_mem_nil, or_false] at z
      have := Heap.lt_size e'
      rcases z with z | z
      · rw [z] at this; exact absurd this (Nat.not_lt_of_le (Nat.le_succ _))
      · rw [z] at this; exact Nat.lt_irrefl _ this) (hk b o e')
    have hge : s1.heap.objs.size ≤ h'.objs.size := by rw [hsz]; exact Nat.le_add_right _ _
    have nm : (h'.objs.size == sysModules) = false := beq_false_of_ne (Nat.ne_of_gt (Nat.lt_of_lt_of_le (modules_low I1.nolimit) hge))
    exact ⟨.ref _, _, I1.laid (o := .frz ob (dicO h'.objs.size L)) (t' := tk2) keep hge ⟨gob, hok _⟩, rfl, k _ L ob (I1.hok.fresh hge) nm hE⟩
theorem pd_dictEnum (hm : X.mg "dict" = none) (hm2 : X.mg "enumerate" = none) (he : PD X T ρ M e (.tup ds) M1) (hl : ds.length ≤ sizeLine) (hc : X.calm = true := by rfl) (hg : Gl X "dict" := by rfl) (hg2 : Gl X "enumerate" := by rfl)
    (hs : starEach [.Call (.Name "enumerate" p2) [e] [] pos2] X.env = [(false, eval (.Call (.Name "enumerate" p2) [e] [] pos2) X.env)] := by rfl) (hs2 : starEach [e] X.env = [(false, eval e X.env)] := by rfl) :
    PD X T ρ M (.Call (.Name "dict" p) [.Call (.Name "enumerate" p2) [e] [] pos2] [] pos) (.dic (dmrg [] ((iota ds).map eI))) M1 :=
  (pe_dictEnum hm hm2 he hc hg hg2 hs hs2).imp fun σ H Q ⟨G, hs, sl, k⟩ => ⟨G, hs, sl, fun v G1 H1 st1 hs1 r1 => by
    obtain ⟨q, xs, rfl, e1, r⟩ := r1.tupH hs1
    refine ⟨q, xs, ds, G1, rfl, e1, r, hl, fun q' L ob hq hsy hE => ?_⟩
    refine k _ _ _ (st1.trans (Step.newI hs1 hq)) (hs1.new hq fun _ z => by cases z) (.dic upd_same (hE.up (up_upd (hs1.freshG hq))) (DicOk.of (kok_int _) hsy ?_))
    rw [List.length_map, iota_length]; exact hl⟩
end
end LW

set_option Elab.async false
set_option linter.all false
set_option maxRecDepth 100000
set_option maxHeartbeats 4000000
/-! LL: dict of pairs, get, items, len, sorted. -/
namespace LW
open PySem PySem.Spec PyProof.Rows L2
open Sem (wp)
def prD (p : D × D) : D := .tup [p.1, p.2]
section
variable {w : World} {G H : Hp}
/-- values beside pairs of data -/
inductive RQ (w : World) (G : Hp) : List (Value × Value) → List (D × D) → Prop
  | nil : RQ w G [] []
  | cons {ku vu : Value} {kv vv : V} {k v : D} {r : List (Value × Value)} {ds : List (D × D)} : Dt w G kv k → RelV kv ku → Dt w G vv v → RelV vv vu → RQ w G r ds → RQ w G ((ku, vu) :: r) ((k, v) :: ds)
theorem RQ.length : ∀ {ps : List (Value × Value)} {ds : List (D × D)}, RQ w G ps ds → ps.length = ds.length
  | _, _, .nil => rfl
  | _, _, .cons _ _ _ _ r => congrArg (· + 1) (RQ.length r)
theorem pairs_of {X : Cx} {pins : List (Addr × Obj)} {σ : L2.St} {s : Shared} (I : L2.Inv X pins σ H s) (hG : ∀ a o, G a = some o → H a = some o) {xs : List V} {us : List Value} (r : Vals xs us) : ∀ {kvs : List (D × D)}, DtL w G xs (kvs.map prD) →
    ∃ (ts : List Addr) (ps : List (Value × Value)), us = ts.map Value.ref ∧ ts.length = kvs.length ∧ RQ w G ps kvs ∧ ∀ (j : Nat) (k v : Value), ps[j]? = some (k, v) → ∃ t, ts[j]? = some t ∧ PairAt s.heap t k v := by
  induction r with
  | nil =>
    intro kvs h
    cases kvs with
    | nil => exact ⟨[], [], rfl, rfl, .nil, fun j k v e => by simp at e⟩
    | cons p q => cases h
  | cons ra rb ih =>
    intro kvs h
    cases kvs with
    | nil => cases h
    | cons p q =>
      obtain ⟨k, v⟩ := p
      cases h with
      | cons h1 h2 =>
        obtain ⟨ts, ps, e1, e2, e3, e4⟩ := ih h2
        cases h1 with
        | tup eg rr =>
          rename_i a xs'
          cases ra
          obtain ⟨kv, vv, rfl, r1, r2⟩ := rr.two
          obtain ⟨its, rv, pt, _⟩ := I.tuple (.inl (.inl (hG _ _ eg)))
          obtain ⟨ku, vu, rfl, q1, q2⟩ := vals2 rv
          refine ⟨a :: ts, (ku, vu) :: ps, by rw [e1]; rfl, by simp [e2], .cons r1 q1 r2 q2 e3, fun j k' v' e => ?_⟩
          cases j with
          | zero =>
            simp at e
            obtain ⟨rfl, rfl⟩ := e
            exact ⟨a, rfl, .inl pt⟩
          | succ j =>
            obtain ⟨t, z1, z2⟩ := e4 j k' v' (by simpa using e)
            exact ⟨t, by simpa using z1, z2⟩
end
/-! ### keys that are tuples -/
section
variable {P : Program} {w : World} {G H : Hp} {h : Heap}
mutual
theorem Dt.nested (ok : HOk P w H h) (hG : ∀ a o, G a = some o → H a = some o) : ∀ {v : V} {d : D}, Dt w G v d → ∀ {u : Value} {k : NestedKey}, RelV v u → d.nk = some k → NestedIs h k u
  | _, _, .non, u, k, r, e => by cases e; cases r; exact .none
  | _, _, .bl b, u, k, r, e => by cases e; cases r; exact .bool rfl
  | _, _, .int i, u, k, r, e => by cases e; obtain ⟨t, rfl⟩ := r; exact .int _ _
  | _, _, .str x, u, k, r, e => by cases e; obtain ⟨t, rfl⟩ := r; exact .text _ _
  | _, _, .ref a, u, k, r, e => by cases e
  | _, _, .tup eg rr, u, k, r, e => by
    rename_i ds
    unfold D.nk at e
    cases q : D.nks ds with
    | none => rw [q] at e; cases e
    | some ks =>
      rw [q] at e
      cases e
      cases r
      obtain ⟨_, its, rv, o, g, c, n, dd⟩ := ok _ _ (hG _ _ eg)
      exact .tup g c dd (by simpa using DtL.nested ok hG rr rv q)
  | _, _, .lst eg rr, u, k, r, e => by cases e
  | _, _, .dic eg rr q, u, k, r, e => by cases e
  | _, _, .obj eg rr, u, k, r, e => by cases e
theorem DtL.nested (ok : HOk P w H h) (hG : ∀ a o, G a = some o → H a = some o) : ∀ {vs : List V} {ds : List D}, DtL w G vs ds → ∀ {us : List Value} {ks : List NestedKey}, Vals vs us → D.nks ds = some ks → NestedAll h ks us
  | _, _, .nil, us, ks, r, e => by cases e; cases r; exact .nil
  | _, _, .cons h1 h2, us, ks, r, e => by
    rename_i d ds
    unfold D.nks at e
    cases r with
    | cons r1 r2 =>
      cases q1 : d.nk with
      | none => rw [q1] at e; cases e
      | some k =>
        cases q2 : D.nks ds with
        | none => rw [q1, q2] at e; cases e
        | some kk =>
          rw [q1, q2] at e
          cases e
          exact .cons (Dt.nested ok hG h1 r1 q1) (DtL.nested ok hG h2 r2 q2)
end
/-- entries with a tuple's address, beside data -/
inductive RH (w : World) (G : Hp) : List (NestedKey × Addr × Value) → List (D × D) → Prop
  | nil : RH w G [] []
  | cons {k : NestedKey} {a : Addr} {u : Value} {v : V} {dk d : D} {r : List (NestedKey × Addr × Value)} {ds : List (D × D)} : dk.nk = some k → Dt w G (.ref a) dk → Dt w G v d → RelV v u → RH w G r ds → RH w G ((k, a, u) :: r) ((dk, d) :: ds)
theorem nkEq_of {a b : D} {k j : NestedKey} (h1 : a.nk = some k) (h2 : b.nk = some j) : nkEq a b = decide (k = j) := by
  unfold nkEq
  rw [h1, h2]
  by_cases h : k = j
  · subst h; simp
  · rw [decide_eq_false h, decide_eq_false fun e => h (Option.some.inj e)]
theorem RH.any {dk : D} {k : NestedKey} (hk : dk.nk = some k) : ∀ {xs : List (NestedKey × Addr × Value)} {ds : List (D × D)}, RH w G xs ds → (atKey xs k).isSome = (ds.any fun p => nkEq p.1 dk)
  | _, _, .nil => rfl
  | _, _, .cons (k := j) e a b c r => by
    rw [List.any_cons, nkEq_of e hk, ← RH.any hk r]
    unfold atKey
    by_cases h : j = k
    · rw [List.find?_cons_of_pos (by simpa using h)]; simp [h]
    · rw [List.find?_cons_of_neg (by simpa using h)]; simp [h]
theorem RH.map {dk d : D} {k : NestedKey} {v : V} {u : Value} (hk : dk.nk = some k) (h1 : Dt w G v d) (h2 : RelV v u) : ∀ {xs : List (NestedKey × Addr × Value)} {ds : List (D × D)}, RH w G xs ds → RH w G (xs.map (putAt k u)) (ds.map fun p => if nkEq p.1 dk = true then (p.1, d) else p)
  | _, _, .nil => .nil
  | _, _, .cons (k := j) e a b c r => by
    rw [List.map_cons, List.map_cons]
    unfold putAt
    simp only [nkEq_of e hk]
    by_cases h : j = k
    · rw [if_pos h, if_pos (by simpa using h)]
      exact .cons e a h1 h2 (RH.map hk h1 h2 r)
    · rw [if_neg h, if_neg (by simpa using h)]
      exact .cons e a b c (RH.map hk h1 h2 r)
theorem RH.app {dk d : D} {k : NestedKey} {a : Addr} {v : V} {u : Value} (hk : dk.nk = some k) (ha : Dt w G (.ref a) dk) (h1 : Dt w G v d) (h2 : RelV v u) : ∀ {xs : List (NestedKey × Addr × Value)} {ds : List (D × D)}, RH w G xs ds → RH w G (xs ++ [(k, a, u)]) (ds ++ [(dk, d)])
  | _, _, .nil => .cons hk ha h1 h2 .nil
  | _, _, .cons e a b c r => .cons e a b c (RH.app hk ha h1 h2 r)
theorem RH.put {dk d : D} {k : NestedKey} {a : Addr} {v : V} {u : Value} {xs : List (NestedKey × Addr × Value)} {ds : List (D × D)} (r : RH w G xs ds) (hk : dk.nk = some k) (ha : Dt w G (.ref a) dk) (h1 : Dt w G v d) (h2 : RelV v u) : RH w G (storedH xs k a u) (dput ds dk d) := by
  unfold storedH dput
  rw [r.any hk]
  split
  · exact RH.map hk h1 h2 r
  · exact RH.app hk ha h1 h2 r
theorem RH.mrg : ∀ {ms : List (NestedKey × Addr × Value)} {es : List (D × D)} {zs : List (NestedKey × Addr × Value)} {ds : List (D × D)}, RH w G zs ds → RH w G ms es → RH w G (storedAllH zs ms) (dmrg ds es)
  | _, _, zs, ds, r, .nil => r
  | _, _, zs, ds, r, .cons (k := k) (a := a) (u := u) (dk := dk) (d := d) e1 e2 e3 e4 m => by
    have r' := RH.mrg (zs := storedH zs k a u) (ds := dput ds dk d) (r.put e1 e2 e3 e4) m
    exact r'
theorem RH.length : ∀ {xs : List (NestedKey × Addr × Value)} {ds : List (D × D)}, RH w G xs ds → xs.length = ds.length
  | _, _, .nil => rfl
  | _, _, .cons _ _ _ _ r => congrArg (· + 1) (RH.length r)
theorem RH.entries : ∀ {xs : List (NestedKey × Addr × Value)} {ds : List (D × D)}, RH w G xs ds → ∃ L, Paired EntR L (xs.map (entryOfKey (nestedKind P w))) ∧ DtE w G L ds
  | _, _, .nil => ⟨[], .nil, .nil⟩
  | _, _, .cons (k := k) (a := a) (v := v) e1 e2 e3 e4 r => by
    obtain ⟨L, p1, p2⟩ := RH.entries r
    exact ⟨(k.hash w, .ref a, v) :: L, .cons ⟨rfl, rfl, e4⟩ p1, .cons e1 e2 e3 p2⟩
theorem to_dicH {p : Addr} {xs : List (NestedKey × Addr × Value)} {ds : List (D × D)} (hd : h.DictOfH (nestedKind P w) p xs) (r : RH w G xs ds) : ∃ L ob, DtE w G L ds ∧ h.get? p = some ob ∧ ∀ H, ObjOk P w H h p (dicO p L) := by
  obtain ⟨o, es, ep, hg, ⟨c1, c2, c3⟩, he, hes, _⟩ := hd
  obtain ⟨L, p1, p2⟩ := r.entries (P := P)
  rw [← hes] at p1
  refine ⟨L, o, p2, hg, fun H => ⟨⟨es, ep, ?_, p1⟩, ⟨o, hg⟩, fun h1 h2 ⟨es', ep', g, r⟩ k => ⟨es', ep', k _ g, r⟩⟩⟩
  rw [hg]
  obtain ⟨o1, o2, o3, o4⟩ := o
  cases c1; cases c2; cases c3; cases he
  rfl
theorem of_entriesH {L : List (Int × V × V)} {el : List DictEntry} (pr : Paired EntR L el) : ∀ {ds : List (D × D)}, DtE w G L ds → (∀ p ∈ ds, KT.t.of p.1 = true) →
    ∃ xs : List (NestedKey × Addr × Value), el = xs.map (entryOfKey (nestedKind P w)) ∧ RH w G xs ds := by
  induction pr with
  | nil =>
    intro ds r _
    cases r
    exact ⟨[], rfl, .nil⟩
  | cons h pr ih =>
    intro ds r hk
    cases r with
    | cons q a b r =>
      rename_i e L el kv vv dk dv nk ds
      obtain ⟨xs, p1, p2⟩ := ih r fun p hp => hk p (List.mem_cons_of_mem _ hp)
      have hd := hk _ List.mem_cons_self
      simp only at hd
      cases a with
      | tup eg rr =>
        rename_i ad xs' ds'
        obtain ⟨h1, h2, h3⟩ := h
        cases h2' : e with
        | mk hh kk vvv =>
          subst h2'
          simp only at h1 h2 h3
          subst h1
          cases h2
          exact ⟨(nk, ad, vvv) :: xs, by rw [p1]; rfl, .cons q (.tup eg rr) b h3 p2⟩
      | _ => cases hd
theorem RH.nks : ∀ {xs : List (NestedKey × Addr × Value)} {ds : List (D × D)}, RH w G xs ds → (ds.map fun p => p.1.nk) = (xs.map (·.1)).map some
  | _, _, .nil => rfl
  | _, _, .cons e _ _ _ r => by
    rw [List.map_cons, List.map_cons, List.map_cons, RH.nks r, e]
theorem RH.is (ok : HOk P w H h) (hG : ∀ a o, G a = some o → H a = some o) : ∀ {xs : List (NestedKey × Addr × Value)} {ds : List (D × D)}, RH w G xs ds → (∀ p ∈ ds, ∀ k, p.1.nk = some k → k.depth ≤ 8) → ∀ x ∈ xs, (nestedKind P w).is h x.1 x.2.1
  | _, _, .nil, _, x, hx => by cases hx
  | _, _, .cons e a b c r, hd, x, hx => by
    rcases List.mem_cons.mp hx with z | z
    · subst z
      exact ⟨Dt.nested ok hG a rfl e, hd _ List.mem_cons_self _ e⟩
    · exact RH.is ok hG r (fun p hp => hd p (List.mem_cons_of_mem _ hp)) x z
theorem of_dicH {p : Addr} {L : List (Int × V × V)} {ds : List (D × D)} (ok : HOk P w H h) (hG : ∀ a o, G a = some o → H a = some o) (hp : ObjOk P w H h p (dicO p L)) (r : DtE w G L ds) (hk : ∀ p ∈ ds, KT.t.of p.1 = true) (hn : (ds.map fun p => p.1.nk).Nodup) (hd : ∀ p ∈ ds, ∀ k, p.1.nk = some k → k.depth ≤ 8) :
    ∃ xs, h.DictOfH (nestedKind P w) p xs ∧ RH w G xs ds := by
  obtain ⟨⟨es, ep, g, pr⟩, _, _⟩ := hp
  obtain ⟨xs, p1, p2⟩ := of_entriesH (P := P) (el := es.toList) pr r hk
  refine ⟨xs, ⟨_, es, ep, g, ⟨rfl, rfl, rfl⟩, rfl, p1, p2.is ok hG hd, ?_⟩, p2⟩
  rw [p2.nks] at hn
  exact (List.pairwise_map.mp hn).imp fun {a b} hne hab => hne (by rw [hab])
end
/-! ### dict([..]) -/
section
variable {X : Cx}
/-- what dict(list of pairs) asks -/
def rDictL (w : World) (kd : List (D × D) → Prop) : List V → Hp → VK → Prop := fun vs H Q => ∃ (a : Addr) (xs : List V) (kvs : List (D × D)) (G : Hp), vs = [.ref a] ∧ H a = some (.lst xs) ∧ DtL w G xs (kvs.map prD) ∧ (∀ b o, G b = some o → H b = some o) ∧ kd kvs ∧ kvs.length ≤ sizeLine ∧
  ∀ q L ob, H q = none → (q == sysModules) = false → DtE w G L (dmrg [] kvs) → Q (.ref q) (upd H q (.frz ob (dicO q L)))
theorem rq_rp {P : Program} {w : World} {G : Hp} {K : Type} [DecidableEq K] {knd : KeyKind P w K} {ek : K → D} {vk : K → V} {nkk : K → NestedKey} (x : KX P w knd ek vk nkk) : ∀ {ps : List (Value × Value)} {kvs : List (D × D)}, RQ w G ps kvs → (∀ p ∈ kvs, ∃ k, p.1 = ek k) →
    ∃ zs : List (K × Value), RP w G ek zs kvs ∧ zs.length = ps.length ∧ ∀ (i : Nat) (key v : Value), ps[i]? = some (key, v) → ∃ k, zs[i]? = some (k, v) ∧ knd.is k key = true
  | _, _, .nil, _ => ⟨[], .nil, rfl, fun i key v e => by simp at e⟩
  | _, _, .cons (ku := ku) (vu := vu) a b c d r, hk => by
    obtain ⟨zs, h1, h2, h3⟩ := rq_rp x r fun p hp => hk p (List.mem_cons_of_mem _ hp)
    obtain ⟨k, e⟩ := hk _ List.mem_cons_self
    simp only at e
    subst e
    cases x.v_of a
    refine ⟨(k, vu) :: zs, .cons c d h1, by simp [h2], fun i key v e => ?_⟩
    cases i with
    | zero =>
      simp at e
      obtain ⟨rfl, rfl⟩ := e
      exact ⟨k, rfl, x.is_ b⟩
    | succ i =>
      obtain ⟨k', z1, z2⟩ := h3 i key v (by simpa using e)
      exact ⟨k', by simpa using z1, z2⟩
theorem rq_rh {w : World} {G : Hp} : ∀ {ps : List (Value × Value)} {kvs : List (D × D)}, RQ w G ps kvs → (∀ p ∈ kvs, KT.t.of p.1 = true) → (∀ p ∈ kvs, ∃ k, p.1.nk = some k ∧ k.depth ≤ 8) →
    ∃ zs : List (NestedKey × Addr × Value), RH w G zs kvs ∧ zs.length = ps.length ∧ ∀ (i : Nat) (key v : Value), ps[i]? = some (key, v) → ∃ k b, zs[i]? = some (k, b, v) ∧ key = Value.ref b
  | _, _, .nil, _, _ => ⟨[], .nil, rfl, fun i key v e => by simp at e⟩
  | _, _, .cons (ku := ku) (vu := vu) (k := kd) a b c d r, hk, hd => by
    obtain ⟨zs, h1, h2, h3⟩ := rq_rh r (fun p hp => hk p (List.mem_cons_of_mem _ hp)) fun p hp => hd p (List.mem_cons_of_mem _ hp)
    have e := hk _ List.mem_cons_self
    obtain ⟨k, e2, _⟩ := hd _ List.mem_cons_self
    simp only at e e2
    cases a with
    | tup eg rr =>
      rename_i ad xs' ds'
      cases b
      refine ⟨(k, ad, vu) :: zs, .cons e2 (.tup eg rr) c d h1, by simp [h2], fun i key v e => ?_⟩
      cases i with
      | zero =>
        simp at e
        obtain ⟨rfl, rfl⟩ := e
        exact ⟨k, ad, rfl, rfl⟩
      | succ i =>
        obtain ⟨k', b', z1, z2⟩ := h3 i key v (by simpa using e)
        exact ⟨k', b', by simpa using z1, z2⟩
    | _ => cases e
theorem list_arg {pins : List (Addr × Obj)} {σ : L2.St} {H : Hp} {s : Shared} (I : L2.Inv X pins σ H s) {a : Addr} {xs : List V} (hH : H a = some (.lst xs)) : ∃ us : List Value, Vals xs us ∧ PlainSeq "list" s.heap a us.toArray := by
  obtain ⟨z, its, n, r, hl, e⟩ := I.lstM hH
  exact ⟨its, r, _, n, e, rfl, rfl, rfl⟩
theorem pairItems_of {h : Heap} {us : List Value} {ts : List Addr} {ps : List (Value × Value)} (e : us = ts.map Value.ref) (hl : ts.length = ps.length) (hp : ∀ (j : Nat) (k v : Value), ps[j]? = some (k, v) → ∃ t, ts[j]? = some t ∧ PairAt h t k v) :
    PairItems h us.toArray (fun j => (ts[j]?).getD 0) ps := by
  refine ⟨by rw [List.size_toArray, e, List.length_map, hl], fun j k v q => ?_⟩
  obtain ⟨t, h1, h2⟩ := hp j k v q
  refine ⟨?_, ?_⟩
  · rw [List.getElem?_toArray, e, List.getElem?_map, h1]
    show some (Value.ref t) = some (Value.ref ((ts[j]?).getD 0))
    rw [h1]
    rfl
  · show PairAt h ((ts[j]?).getD 0) k v
    rw [h1]
    exact h2
theorem call_dictL {K : Type} [DecidableEq K] {knd : KeyKind X.prog X.w K} {ek : K → D} {vk : K → V} {nkk : K → NestedKey} (hc : X.calm = true) (x : KX X.prog X.w knd ek vk nkk) : CallR X (.type "dict") (rDictL X.w fun kvs => ∀ p ∈ kvs, ∃ k, p.1 = ek k) := by
  intro pins s σ H vs us Q I rs ⟨a, xs, kvs, G, e, hH, hL, hG, hk, hl, k⟩
  subst e
  obtain ⟨u, rfl, ru⟩ := vals1 rs
  cases ru
  obtain ⟨its, rv, pl⟩ := list_arg I hH
  obtain ⟨ts, ps, e1, e2, rq, e4⟩ := pairs_of I hG rv hL
  obtain ⟨zs, rp, l1, l2⟩ := rq_rp x rq hk
  have pi := pairItems_of e1 (e2.trans rq.length.symm) e4
  refine call_dict_pairs (PairArg.list a its.toArray _ ps) (I.ok.hd hc) ⟨pl, pi⟩ ⟨l1, fun i key v h => l2 i key v h⟩ (by rw [rq.length]; exact hl) fun h' tk hd hk' => ?_
  have rm := RP.mrg x (zs := []) (ds := []) .nil rp
  obtain ⟨L, ob, hE, gob, hok⟩ := to_dic x hd rm
  exact ⟨.ref _, _, I.laid (o := .frz ob (dicO s.heap.objs.size L)) (t' := tk) (fun b o e => hk' b o (by simp) e) (Nat.le_refl _) ⟨gob, hok _⟩, rfl, k _ L ob (I.hok.fresh (Nat.le_refl _)) I.notMod hE⟩
theorem call_dictLH (hc : X.calm = true) (hu : X.A.units + 10 < cLine) : CallR X (.type "dict") (rDictL X.w fun kvs => (∀ p ∈ kvs, KT.t.of p.1 = true) ∧ ∀ p ∈ kvs, ∃ k, p.1.nk = some k ∧ k.depth ≤ 8) := by
  intro pins s σ H vs us Q I rs ⟨a, xs, kvs, G, e, hH, hL, hG, hk, hl, k⟩
  subst e
  obtain ⟨u, rfl, ru⟩ := vals1 rs
  cases ru
  obtain ⟨its, rv, pl⟩ := list_arg I hH
  obtain ⟨ts, ps, e1, e2, rq, e4⟩ := pairs_of I hG rv hL
  obtain ⟨zs, rh, l1, l2⟩ := rq_rh rq hk.1 hk.2
  have pi := pairItems_of e1 (e2.trans rq.length.symm) e4
  have his : ∀ x ∈ zs, (nestedKind X.prog X.w).is s.heap x.1 x.2.1 := rh.is I.hok hG fun p hp k' e => by
    obtain ⟨k'', e', h'⟩ := hk.2 p hp
    rw [e] at e'
    cases e'
    exact h'
  refine call_dict_pairsH (knd := nestedKind X.prog X.w) (ps := zs) (PairArg.list a its.toArray _ ps) (I.ok.hd hc) (by show X.A.in1.in1.units + 8 < cLine; show X.A.units + 1 + 1 + 8 < _; omega) ⟨pl, pi⟩ ⟨l1, fun i key v h => l2 i key v h⟩
    (fun h' hk' x hx => ⟨NestedIs.at (fun b o vs n e _ => hk' b o (Nat.ne_of_lt (Heap.lt_size e)) (by simp) e) _ _ (his x hx).1, (his x hx).2⟩) (by rw [rq.length]; exact hl) fun h' tk hd hk' => ?_
  have rm := RH.mrg (zs := []) (ds := []) .nil rh
  obtain ⟨L, ob, hE, gob, hok⟩ := to_dicH hd rm
  exact ⟨.ref _, _, I.laid (o := .frz ob (dicO s.heap.objs.size L)) (t' := tk) (fun b o e => hk' b o (by simp) e) (Nat.le_refl _) ⟨gob, hok _⟩, rfl, k _ L ob (I.hok.fresh (Nat.le_refl _)) I.notMod hE⟩
variable {T : List Addr} {ρ : List (Option D)} {M M1 M2 M3 : Mem} {d da db : D} {a b c e o : Expr} {pos p : Pos} {ds : List D}
theorem ok_dictL {kd : List (D × D) → Prop} {kvs : List (D × D)} (l : LV M da (kvs.map prD)) (hk : kd kvs) (ho : KOk kvs) (hl : kvs.length ≤ sizeLine) {w : World} : OkC w T M (rDictL w kd) [da] (.dic (dmrg [] kvs)) := fun G H vs Q hs r k => by
  obtain ⟨v, rfl, rr⟩ := r.one
  obtain ⟨q, xs, rfl, e, rx⟩ := l.get hs rr
  exact ⟨q, xs, kvs, G, rfl, e, rx, hs.sub, hk, hl, fun q' L ob hq hsy hE => k _ _ _ (Step.newI hs hq) (hs.new hq fun _ z => by cases z) (.dic upd_same (hE.up (up_upd (hs.freshG hq))) (DicOk.of ho hsy hl))⟩
theorem pd_dictI {ps : List (Int × D)} (l : LV M1 da ((ps.map eI).map prD)) (hl : ps.length ≤ sizeLine) (hm : X.mg "dict" = none) (ha : PD X T ρ M a da M1) (hc : X.calm = true := by rfl) (hg : Gl X "dict" := by rfl) (he : starEach [a] X.env = (false, eval a X.env) :: starEach [] X.env := by rfl) :
    PD X T ρ M (.Call (.Name "dict" p) [a] [] pos) (.dic (dmrg [] (ps.map eI))) M1 :=
  pd_callT (call_dictL hc (kx_int _ _)) (ok_dictL l (fun p hp => by obtain ⟨z, _, rfl⟩ := List.mem_map.mp hp; exact ⟨z.1, rfl⟩) (kok_int ps) (by rw [List.length_map]; exact hl)) hm (by decide +kernel) (pdl_1 ha he) hg (by decide) (by decide) he
theorem pd_dictH {kvs : List (D × D)} (hu : X.A.units + 10 < cLine) (l : LV M1 da (kvs.map prD)) (hk : ∀ p ∈ kvs, KT.t.of p.1 = true) (hd : ∀ p ∈ kvs, ∃ k, p.1.nk = some k ∧ k.depth ≤ 8) (hl : kvs.length ≤ sizeLine) (hm : X.mg "dict" = none) (ha : PD X T ρ M a da M1) (hc : X.calm = true := by rfl) (hg : Gl X "dict" := by rfl) (he : starEach [a] X.env = (false, eval a X.env) :: starEach [] X.env := by rfl) :
    PD X T ρ M (.Call (.Name "dict" p) [a] [] pos) (.dic (dmrg [] kvs)) M1 :=
  pd_callT (call_dictLH hc hu) (ok_dictL l ⟨hk, hd⟩ ⟨⟨.t, hk⟩, hd⟩ hl) hm (by decide +kernel) (pdl_1 ha he) hg (by decide) (by decide) he
/-! ### d.get(..), keys by value -/
def rGet (P : Program) (w : World) {K : Type} (ek : K → D) (vk : K → V) : V → List V → Hp → VK → Prop := fun v us H Q => ∃ (a : Addr) (L : List (Int × V × V)) (kvs : List (D × D)) (G : Hp) (k : K) (dflt : V), v = .ref a ∧ Rd H a (dicO a L) ∧ DtE w G L kvs ∧ DicOk a kvs ∧ (∀ p ∈ kvs, ∃ k, p.1 = ek k) ∧
  ((us = [vk k] ∧ dflt = .non) ∨ us = [vk k, dflt]) ∧ (dget kvs (ek k) = none → Q dflt H) ∧ ∀ d x, dget kvs (ek k) = some d → Dt w G x d → Q x H
theorem mt_getX {K : Type} [DecidableEq K] {knd : KeyKind X.prog X.w K} {ek : K → D} {vk : K → V} {nkk : K → NestedKey} (x : KX X.prog X.w knd ek vk nkk) : MtR X "dict.get" (rGet X.prog X.w ek vk) := by
  intro pins s σ H v us u vs Q I rv rs ⟨a, L, kvs, G, k, dflt, e, hR, hE, hD, hk, hus, q1, q2⟩
  subst e
  cases rv
  obtain ⟨zs, hd, rp⟩ := of_dic x (rd_ok I hR) hE hk hD.nd
  have fin : ∀ (z : Value) (dv : Value), RelV dflt dv → z = (valueAt zs k).getD dv → EP X pins σ Q z { s with toks := s.toks + 1 } := fun z dv rd ez => by
    subst ez
    rcases rp.get x k with ⟨e1, e2⟩ | ⟨u, y, d, e1, e2, r1, r2⟩
    · rw [e1]
      exact ⟨dflt, H, I.tok _, rd, q1 e2⟩
    · rw [e1]
      exact ⟨y, H, I.tok _, r1, q2 d y e2 r2⟩
  rcases hus with ⟨rfl, rfl⟩ | rfl
  · obtain ⟨ku, rfl, rk⟩ := vals1 rs
    exact call_meetsIn F.slot_dict_get hd.typeIs F.entry_dict_get (F.args_dict_get_2 _ _) (meets_dict_get knd a (x.is_ rk) hD.sys) ⟨_, hd.mapOf, fin _ _ rfl rfl⟩
  · obtain ⟨ku, du, rfl, rk, rd⟩ := vals2 rs
    exact call_meetsIn F.slot_dict_get hd.typeIs F.entry_dict_get (F.args_dict_get_3 _ _ _) (meets_dict_get_default knd a (x.is_ rk) hD.sys du) ⟨_, hd.mapOf, fin _ _ rd rfl⟩
theorem DV.ty {w : World} {kvs : List (D × D)} (l : DV M1 da kvs) (G H : Hp) (v : V) (hs : HS w T G H M1) (r : Dt w G v da) : tyD "dict" v H := by
  obtain ⟨a, L, rfl, e, _⟩ := l.get hs r
  exact .inr (.inl ⟨rfl, a, L, rfl, e⟩)
theorem pd_get1 {ps : List (Int × D)} {i : Int} {apos : Pos} (l : DV M1 da (ps.map eI)) (l2 : DV M2 da (ps.map eI)) (ho : PD X T ρ M o da M1) (ha : PD X T ρ M1 e (.int i) M2)
    (hbase : attributeBase o "get" X.env (eval o X.env) = eval o X.env := by rfl)
    (hfew : ((backTo pos (starEach [e] X.env)).all (fun x => !x.1) && (backToKw pos (keywordEach [] X.env)).all (fun x => x.1.isSome)
      && decide ([e].length + ([] : List Keyword).length + (if ([] : List Keyword).isEmpty then 0 else 1) < 30)) = true := by rfl)
    (hline : (apos.endLine == pos.line) = true := by rfl) (hs : starEach [e] X.env = (false, eval e X.env) :: starEach [] X.env := by rfl) : PD X T ρ M (.Call (.Attribute o "get" apos) [e] [] pos) ((dget (ps.map eI) (.int i)).getD .non) M2 := by
  refine pd_m F.plainAttrs_dict F.slot_dict_get rfl (mt_getX (kx_int _ _)) ho (pdl_1 ha hs) l.ty (fun G H v us Q hs' r1 r2 k => ?_) hbase hfew hline hs rfl
  obtain ⟨u, rfl, ru⟩ := r2.one
  cases ru
  obtain ⟨a, L, rfl, eR, hE, hD⟩ := l2.get hs' r1
  refine ⟨a, L, _, G, i, .non, rfl, eR, hE, hD, fun p hp => by obtain ⟨z, _, rfl⟩ := List.mem_map.mp hp; exact ⟨z.1, rfl⟩, .inl ⟨rfl, rfl⟩, fun e => ?_, fun d x e r => ?_⟩
  · exact k _ G H (Step.refl _ _ _) hs' (by rw [e]; exact .non)
  · exact k _ G H (Step.refl _ _ _) hs' (by rw [e]; exact r)
theorem pd_get2 {ps : List (Int × D)} {i : Int} {apos : Pos} (l : DV M1 da (ps.map eI)) (l2 : DV M3 da (ps.map eI)) (ho : PD X T ρ M o da M1) (ha : PD X T ρ M1 e (.int i) M2) (hb : PD X T ρ M2 b db M3)
    (hbase : attributeBase o "get" X.env (eval o X.env) = eval o X.env := by rfl)
    (hfew : ((backTo pos (starEach [e, b] X.env)).all (fun x => !x.1) && (backToKw pos (keywordEach [] X.env)).all (fun x => x.1.isSome)
      && decide ([e, b].length + ([] : List Keyword).length + (if ([] : List Keyword).isEmpty then 0 else 1) < 30)) = true := by rfl)
    (hline : (apos.endLine == pos.line) = true := by rfl) (hs : starEach [e, b] X.env = (false, eval e X.env) :: starEach [b] X.env := by rfl) (hs2 : starEach [b] X.env = (false, eval b X.env) :: starEach [] X.env := by rfl) (hpl : (backTo pos (starEach [b] X.env)).any (·.1) = false := by rfl) : PD X T ρ M (.Call (.Attribute o "get" apos) [e, b] [] pos) ((dget (ps.map eI) (.int i)).getD db) M3 := by
  refine pd_m F.plainAttrs_dict F.slot_dict_get rfl (mt_getX (kx_int _ _)) ho (pdl_cons ha (pdl_1 hb hs2) hs) l.ty (fun G H v us Q hs' r1 r2 k => ?_) hbase hfew hline hs hpl
  obtain ⟨u, u2, rfl, ru, ru2⟩ := r2.two
  cases ru
  obtain ⟨a, L, rfl, eR, hE, hD⟩ := l2.get hs' r1
  refine ⟨a, L, _, G, i, u2, rfl, eR, hE, hD, fun p hp => by obtain ⟨z, _, rfl⟩ := List.mem_map.mp hp; exact ⟨z.1, rfl⟩, .inr rfl, fun e => ?_, fun d x e r => ?_⟩
  · exact k _ G H (Step.refl _ _ _) hs' (by rw [e]; exact ru2)
  · exact k _ G H (Step.refl _ _ _) hs' (by rw [e]; exact r)
end
end LW

set_option Elab.async false
set_option linter.all false
set_option maxRecDepth 100000
set_option maxHeartbeats 4000000
/-! LM: d.items(), len(d), sorted. -/
namespace LW
open PySem PySem.Spec PyProof.Rows L2
open Sem (wp)
mutual
theorem reads_lt {h : Heap} : ∀ {v : Value} {d : PyData} {as : List Addr}, Reads h v d as → ∀ b ∈ as, b < h.objs.size
  | _, _, _, .none, b, hb => by cases hb
  | _, _, _, .bool _, b, hb => by cases hb
  | _, _, _, .int _ _, b, hb => by cases hb
  | _, _, _, .str _ _, b, hb => by cases hb
  | _, _, _, .list e _ _ r, b, hb => by
    rcases List.mem_cons.mp hb with z | z
    · rw [z]; exact Heap.lt_size e
    · exact readsAll_lt r b z
  | _, _, _, .tuple e _ _ r, b, hb => readsAll_lt r b hb
  | _, _, _, .dict e _ _ r1 r2, b, hb => by
    rcases List.mem_append.mp hb with z | z
    · rcases List.mem_cons.mp z with z | z
      · rw [z]; exact Heap.lt_size e
      · exact readsAll_lt r1 b z
    · exact readsAll_lt r2 b z
theorem readsAll_lt {h : Heap} : ∀ {vs : List Value} {ds : List PyData} {as : List Addr}, ReadsAll h vs ds as → ∀ b ∈ as, b < h.objs.size
  | _, _, _, .nil, b, hb => by cases hb
  | _, _, _, .cons r1 r2, b, hb => by
    rcases List.mem_append.mp hb with z | z
    · exact reads_lt r1 b z
    · exact readsAll_lt r2 b z
end
theorem Paired.at_ {α β : Type} {F : α → β → Prop} : ∀ {xs : List α} {ys : List β}, Paired F xs ys → ∀ {i : Nat} {y : β}, ys[i]? = some y → ∃ x, xs[i]? = some x ∧ F x y
  | _, _, .nil, i, y, e => by simp at e
  | _, _, .cons h r, 0, y, e => by simp at e; subst e; exact ⟨_, rfl, h⟩
  | _, _, .cons h r, i + 1, y, e => by
    obtain ⟨x, h1, h2⟩ := Paired.at_ r (i := i) (by simpa using e)
    exact ⟨x, by simpa using h1, h2⟩
theorem Paired.len_ {α β : Type} {F : α → β → Prop} : ∀ {xs : List α} {ys : List β}, Paired F xs ys → xs.length = ys.length
  | _, _, .nil => rfl
  | _, _, .cons _ r => congrArg (· + 1) (Paired.len_ r)
theorem DtE.length {w : World} {G : Hp} : ∀ {L : List (Int × V × V)} {kvs : List (D × D)}, DtE w G L kvs → L.length = kvs.length
  | _, _, .nil => rfl
  | _, _, .cons _ _ _ r => congrArg (· + 1) (DtE.length r)
theorem DtE.get {w : World} {G : Hp} : ∀ {L : List (Int × V × V)} {kvs : List (D × D)}, DtE w G L kvs → ∀ {i : Nat} {p : D × D}, kvs[i]? = some p → ∃ z, L[i]? = some z ∧ Dt w G z.2.1 p.1 ∧ Dt w G z.2.2 p.2
  | _, _, .nil, i, p, e => by simp at e
  | _, _, .cons _ a b _, 0, p, e => by simp at e; subst e; exact ⟨_, rfl, a, b⟩
  | _, _, .cons _ _ _ r, i + 1, p, e => by
    obtain ⟨z, h1, h2⟩ := DtE.get r (i := i) (by simpa using e)
    exact ⟨z, by simpa using h1, h2⟩
section
variable {X : Cx} {pins : List (Addr × Obj)} {σ : L2.St} {H : Hp} {s : Shared}
/-- a dict that reads, raw -/
theorem raw_of {a : Addr} {L : List (Int × V × V)} (I : L2.Inv X pins σ H s) (h : Rd H a (dicO a L)) : ∃ es ep, s.heap.DictRaw a es ep ∧ es.size = L.length ∧ Paired EntR L es.toList := by
  obtain ⟨⟨es, ep, g, pr⟩, _, _⟩ := rd_ok I h
  exact ⟨es, ep, ⟨_, g, ⟨rfl, rfl, rfl⟩, rfl⟩, by rw [← Array.length_toList]; exact (Paired.len_ pr).symm, pr⟩
theorem raw_frz {a : Addr} {ob : Obj} {L : List (Int × V × V)} {es : Array DictEntry} {ep : Nat} (I : L2.Inv X pins σ H s) (h : H a = some (.frz ob (dicO a L))) (hod : ob.data = .dict es ep) : s.heap.DictRaw a es ep ∧ es.size = L.length ∧ Paired EntR L es.toList := by
  obtain ⟨g, ⟨es', ep', g', pr⟩, _, _⟩ := I.hok a _ h
  rw [g] at g'
  cases g'
  cases hod
  exact ⟨⟨_, g, ⟨rfl, rfl, rfl⟩, rfl⟩, by rw [← Array.length_toList]; exact (Paired.len_ pr).symm, pr⟩
end
def Itm (d : Addr) (ob : Obj) (L : List (Int × V × V)) : It :=
  ⟨fun i H => H d = some (.frz ob (dicO d L)) ∧ i < L.length, fun i H v H' => ∃ T z, L[i]? = some z ∧ v = .ref T ∧ H T = none ∧ H' = upd H T (.tup [z.2.1, z.2.2]), fun i H => H d = some (.frz ob (dicO d L)) ∧ i = L.length⟩
section
variable {P : Program} {w : World} {K : PySem.W.Frag} {d : Addr} {ob : Obj} {es : Array DictEntry} {ep : Nat}
theorem turn_itm {L : List (Int × V × V)} {elts : List Expr} {kk : Nat} {tpos : Pos} (it : Addr) (hod : ob.data = .dict es ep) :
    Turn P w K (.Tuple elts kk tpos) (Itm d ob L) [it] it (fun i h => ∃ ok ov, IsItemIter h it d i es.size ep ok ov) where
  mem := by simp
  obj := fun i h st b hb => by
    have e : b = it := by simpa using hb
    subst e
    obtain ⟨ok, ov, e⟩ := st
    exact ⟨_, e, fun v z => nomatch z⟩
  keep := fun i h h' st k => let ⟨ok, ov, e⟩ := st; ⟨ok, ov, k it (by simp) _ e⟩
  item := by
    intro X hP hw hK hc i pins s σ H E I hf st hg
    subst hP hw hK
    obtain ⟨hd, hi⟩ := hg
    obtain ⟨raw, hsz, pr⟩ := raw_frz I hd hod
    obtain ⟨ok, ov, he⟩ := st
    have hi' : i < es.size := by rw [hsz]; exact hi
    have hlt : it < s.heap.objs.size := Heap.lt_size he
    obtain ⟨z, hz, h1, h2, h3⟩ := Paired.at_ pr (i := i) (y := es[i]) (by rw [Array.getElem?_toList]; exact Array.getElem?_eq_getElem hi')
    refine wpAny_pyNext_items_item_raw he raw hi' fun h' ho hT hz' hk => ?_
    refine ⟨_, rfl, wpAny_letOwnedTupleGo_items (s := { s with heap := h' }) ho fun h'' he' sb => ?_⟩
    have hT2 : h''.get? s.heap.objs.size = some { cls := .type "tuple", data := .seq #[es[i].key, es[i].val] } := (sb.2 _ (Nat.ne_of_gt hlt)).trans hT
    have new : ObjOk X.prog X.w (upd H s.heap.objs.size (.tup [z.2.1, z.2.2])) h'' s.heap.objs.size (.tup [z.2.1, z.2.2]) :=
      ⟨by show 2 ≤ sizeLine; decide, [es[i].key, es[i].val], .cons h2 (.cons h3 .nil), ⟨_, hT2, rfl, _, rfl⟩⟩
    have I1 : L2.Inv X pins σ (upd H s.heap.objs.size (.tup [z.2.1, z.2.2])) { s with heap := h'' } :=
      I.turnedNew (t' := s.toks) (ch := [it]) (fun b ob hb e => (sb.2 b (by simpa using hb)).trans (hk b ob (by simpa using hb) e)) hf (Nat.le_refl _) new
    refine ⟨.ref s.heap.objs.size, _, I1, rfl, ⟨_, z, hz, rfl, I.hok.fresh (Nat.le_refl _), rfl⟩, ⟨_, _, he'⟩, fun b hb => ?_⟩
    have e : b = it := by simpa using hb
    rw [e, upd_ne (Nat.ne_of_lt hlt)]
    exact (hf it (by simp)).1
  done := by
    intro X hP hw hK hc i pins s σ H E I hf st hg
    subst hP hw hK
    obtain ⟨hd, hi⟩ := hg
    obtain ⟨f0, f1, f2, f3, f4, f5⟩ := hf it (by simp)
    obtain ⟨raw, hsz, pr⟩ := raw_frz I hd hod
    obtain ⟨ok, ov, he⟩ := st
    exact wpAny_pyNext_items_end_raw (I.ok.hd hc) he raw (by rw [hsz, hi]; exact Nat.le_refl _) fun h' eb => ⟨rfl, I.turned (t' := s.toks) (fun b ob hb e => eb b ob hb e) f0 f1 f3 f4 f5⟩
  self := fun A i s Q E st h => let ⟨_, _, e⟩ := st; PySem.W.kcp_self e h
end
section
variable {X : Cx} {T : List Addr} {ρ : List (Option D)} {M M1 M2 M3 : Mem} {d da db : D} {a b c e o : Expr} {pos p apos cpos tpos : Pos} {ds : List D} {elts : List Expr} {kk : Nat}
theorem pi_itm {td : TE} (he : PE X e td) (hbase : attributeBase e "items" X.env (eval e X.env) = eval e X.env := by rfl) (hline : (apos.endLine == cpos.line) = true := by rfl) :
    PI X (.Tuple elts kk tpos) (.Call (.Attribute e "items" apos) [] [] cpos) (fun σ H R => td σ H fun x H1 => ∃ d ob L, x = .ref d ∧ (d == sysModules) = false ∧ H1 d = some (.frz ob (dicO d L)) ∧ R (Itm d ob L) H1) := by
  refine ⟨fun pins s σ H R I h => ?_⟩
  refine wpAny_Call_method (T := "dict") (id := "dict.items") hbase rfl hline F.plainAttrs_dict F.slot_dict_items F.type_dict_items (thn (he.run pins s σ H _ I h) fun u s1 ⟨x, H1, I1, rx, d, ob, L, ex, hs, hd, q⟩ => ?_)
  subst ex
  obtain rfl : u = Value.ref d := rx
  obtain ⟨es, ep, raw, hsz, pr⟩ := raw_of I1 (.inr ⟨_, hd⟩)
  have hod : ob.data = .dict es ep := by
    obtain ⟨g, _⟩ := I1.hok d _ hd
    obtain ⟨o, g', _, dd⟩ := raw
    rw [g] at g'
    cases g'
    exact dd
  refine ⟨raw.typeIs, fun b e => ?_, ?_⟩
  · cases e
    obtain ⟨o, g', c, _⟩ := raw
    exact ⟨o, g', c.2.1⟩
  have I2 : L2.Inv X pins σ H1 { s1 with heap := s1.heap.push { cls := .type "dict_items", data := .fields #[.ref d] } } := I1.kept (t' := s1.toks) fun b ob q => Heap.get?_push_of_some _ q
  have fin : wpAny (model X.prog X.w) X.A (pyIter (.ref s1.heap.objs.size)) (PIE X pins σ (.Tuple elts kk tpos) R) X.xe { s1 with heap := s1.heap.push { cls := .type "dict_items", data := .fields #[.ref d] } } := by
    refine wpAny_pyIter_items_raw (d := d) ⟨_, Heap.get?_push_size _ rfl, rfl, rfl⟩ (raw.push _) (pi_one (tk := s1.toks) I2 _ (turn_itm _ hod) ⟨.none, .none, ?_⟩ q)
    exact Heap.get?_push_size _ rfl
  show wpAny _ _ (callWith cpos (.builtin "dict.items") [.ref d] [] []) _ X.xe s1
  exact method_meetsIn F.slot_dict_items F.entry_dict_items rfl (PySem.evalArgs_none ⟨rfl, raw.typeIs, F.args_dict_items_1 _, _, meets_dict_items_raw d hs, ⟨es, ep, raw⟩, fin⟩)
theorem pdi_items {kvs : List (D × D)} (h : PD X T ρ M e (.dic kvs) M1) (hbase : attributeBase e "items" X.env (eval e X.env) = eval e X.env := by rfl) (hline : (apos.endLine == cpos.line) = true := by rfl) :
    PDI X T ρ M (.Tuple elts kk tpos) (.Call (.Attribute e "items" apos) [] [] cpos) (kvs.map prD) M1 (fun _ => True) :=
  (pi_itm h hbase hline).imp fun σ H R ⟨G, hs, sl, k⟩ => ⟨G, hs, sl, fun v G1 H1 st hs1 r => by
    cases r with
    | dic eg hE hD =>
      rename_i a ob L
      refine ⟨a, ob, L, rfl, hD.sys, hs1.sub _ _ eg, k _ G1 H1 st hs1 ⟨fun i G2 H2 M2 hi st2 hs2 _ => ?_, fun i G2 H2 M2 x H' d st2 hs2 _ hd hy => ?_, fun G2 H2 M2 st2 hs2 _ => ?_⟩⟩
      · exact ⟨hs2.sub _ _ (st2.up _ _ eg), by rw [hE.length]; simpa using hi⟩
      · obtain ⟨Ta, z, hz, rfl, hn, rfl⟩ := hy
        rw [List.getElem?_map] at hd
        cases e1 : kvs[i]? with
        | none => rw [e1] at hd; cases hd
        | some p =>
          rw [e1] at hd
          cases hd
          obtain ⟨z', hz', r1, r2⟩ := hE.get e1
          rw [hz] at hz'
          cases hz'
          exact ⟨_, Step.newI hs2 hn, (hs2.new hn fun _ z => by cases z), .tup upd_same (.cons (r1.up fun a o e => up_upd (hs2.freshG hn) a o (st2.up a o e)) (.cons (r2.up fun a o e => up_upd (hs2.freshG hn) a o (st2.up a o e)) .nil))⟩
      · exact ⟨hs2.sub _ _ (st2.up _ _ eg), by rw [List.length_map, hE.length]⟩⟩
/-! ### len(d) -/
theorem call_len_dic : CallR X (.builtin "len") (fun xs H Q => ∃ (p : Addr) (L : List (Int × V × V)), xs = [.ref p] ∧ (p == sysModules) = false ∧ Rd H p (dicO p L) ∧ L.length ≤ sizeLine ∧ Q (.int ((L.length : Nat) : Int)) H) := by
  intro pins s σ H xs us Q I r ⟨p, L, e, hs, hR, hz, q⟩
  subst e
  obtain ⟨u, rfl, rx⟩ := vals1 r
  cases rx
  obtain ⟨es, ep, raw, hsz, pr⟩ := raw_of I hR
  refine Calls.call_function_entry kind_len plain_len entry_len (args_len1 _) ?_
  unfold Builtin.«len»
  refine wpAny_bind (m := oneArg "len" _) (wpAny_pure ?_)
  refine wpAny_bind (m := callSpecial? (.ref p) (Str.ofString "__len__")) (wpAny_callSpecial?_slot (name := Str.ofString "__len__") raw.typeIs F.slot_dict_len (call_len_raw hs raw ?_))
  refine wpAny_bind (wpAny_holding (wpAny_pure ?_))
  refine wpAny_bind (wpAny_letGo ?_)
  rw [sizeLine_eq] at hz
  show wpAny _ _ (if ((es.size : Nat) : Int) < 0 then _ else _) _ _ _
  rw [if_neg (by omega)]
  show wpAny _ _ (if ((es.size : Nat) : Int) ≥ 2 ^ 63 then _ else _) _ _ _
  rw [if_neg (by omega)]
  refine wpAny_bind (wpAny_mkInt (wpAny_pure ⟨_, rfl, ?_⟩))
  rw [hsz]
  exact ⟨.int ((L.length : Nat) : Int), H, (I.tok _).tok _, ⟨_, rfl⟩, q⟩
theorem pd_lenD {kvs : List (D × D)} (l : DV M1 da kvs) (hm : X.mg "len" = none) (ha : PD X T ρ M a da M1) (hg : Gl X "len" := by rfl) (he : starEach [a] X.env = (false, eval a X.env) :: starEach [] X.env := by rfl) :
    PD X T ρ M (.Call (.Name "len" p) [a] [] pos) (.int (kvs.length : Int)) M1 :=
  pd_callB call_len_dic (fun G H vs Q hs r k => by
    obtain ⟨v, rfl, rr⟩ := r.one
    obtain ⟨q, L, rfl, e, hE, hD⟩ := l.get hs rr
    exact ⟨q, L, rfl, hD.sys, e, by rw [hE.length]; exact hD.len, by rw [hE.length]; exact k _ G H (Step.refl _ _ _) hs (.int _)⟩) hm PySem.boot_len (pdl_1 ha he) hg (by decide) (by decide) he
/-! ### sorted -/
def pyD (d : D) : PyData := (d.py).getD .none
theorem pyD_of {d : D} {y : PyData} (h : d.py = some y) : pyD d = y := by unfold pyD; rw [h]; rfl
/-- values beside data, kept -/
theorem each_of {w : World} {G H : Hp} {s : Shared} {pins : List (Addr × Obj)} {σ : L2.St} (I : L2.Inv X pins σ H s) (hG : ∀ a o, G a = some o → H a = some o) {vs : List V} {us : List Value} (r : Vals vs us) : ∀ {ds : List D}, DtL w G vs ds → (∀ d ∈ ds, ∃ y, d.py = some y) →
    W.EachIs (fun u d => ∃ v : V, RelV v u ∧ Dt w G v d) us ds ∧ W.EachIs (fun u d => ∃ as, Reads s.heap u (pyD d) as) us ds := by
  induction r with
  | nil =>
    intro ds h _
    cases h
    exact ⟨.nil, .nil⟩
  | cons ra rb ih =>
    intro ds h hp
    cases h with
    | cons h1 h2 =>
      obtain ⟨e1, e2⟩ := ih h2 fun d hd => hp d (List.mem_cons_of_mem _ hd)
      obtain ⟨y, hy⟩ := hp _ List.mem_cons_self
      refine ⟨.cons ⟨_, ra, h1⟩ e1, .cons ?_ e2⟩
      rw [pyD_of hy]
      exact Dp.reads I y _ _ (Dt.dp (K := X.K) hG h1 hy) ra
theorem each_back {w : World} {G : Hp} : ∀ {us : List Value} {ds : List D}, W.EachIs (fun u d => ∃ v : V, RelV v u ∧ Dt w G v d) us ds → ∃ vs : List V, Vals vs us ∧ DtL w G vs ds
  | _, _, .nil => ⟨[], .nil, .nil⟩
  | _, _, .cons ⟨v, h1, h2⟩ r => by
    obtain ⟨vs, p1, p2⟩ := each_back r
    exact ⟨v :: vs, .cons h1 p1, .cons h2 p2⟩
/-- may be sorted -/
structure Srt (ds : List D) : Prop where
  py : ∀ d ∈ ds, ∃ y, d.py = some y
  alike : PySem.W.AllAlike (ds.map pyD)
  sortable : PySem.W.Sortable (ds.map pyD)
  dep : ∀ d ∈ ds, (pyD d).depth ≤ 60
  len : ds.length ≤ sizeLine
def sortD (ds : List D) : List D := ds.mergeSort (W.dataLe false pyD)
def rSortD (w : World) : List V → Hp → VK → Prop := fun vs H Q => ∃ (ds : List D) (G : Hp), (∀ b o, G b = some o → H b = some o) ∧ Srt ds ∧
  ((∃ a L kvs, vs = [.ref a] ∧ (a == sysModules) = false ∧ Rd H a (dicO a L) ∧ DtE w G L kvs ∧ ds = kvs.map (·.1)) ∨ ∃ a xs, vs = [.ref a] ∧ H a = some (.lst xs) ∧ DtL w G xs ds) ∧
  ∀ q ys, H q = none → DtL w G ys (sortD ds) → Q (.ref q) (upd H q (.lst ys))
theorem DtE.keys {w : World} {G : Hp} : ∀ {L : List (Int × V × V)} {kvs : List (D × D)}, DtE w G L kvs → DtL w G (L.map fun z => z.2.1) (kvs.map (·.1))
  | _, _, .nil => .nil
  | _, _, .cons _ a _ r => .cons a (DtE.keys r)
theorem vals_keys : ∀ {L : List (Int × V × V)} {el : List DictEntry}, Paired EntR L el → Vals (L.map fun z => z.2.1) (el.map (·.key))
  | _, _, .nil => .nil
  | _, _, .cons h r => .cons h.2.1 (vals_keys r)
theorem cr_sortD (hc : X.calm = true) (hu : X.A.units + 100 < cLine) : CallR X (.builtin "sorted") (rSortD X.w) := by
  intro pins s σ H vs us Q I rs ⟨ds, G, hG, hS, hsrc, k⟩
  have go : ∀ (x : Value) (its : List Value) (h' : Heap) (tk : Nat), L2.Inv X pins σ H { s with heap := h', toks := tk } → (∀ b o, s.heap.get? b = some o → h'.get? b = some o) → (∃ xs : List V, Vals xs its ∧ DtL X.w G xs ds) →
      wpAny (model X.prog X.w) X.A.in1 (do
        let l ← newList its
        let _ ← holding [l] (call (.builtin "list.sort") [l] [])
        ret l) (fun fin s' => ∃ v, fin = .done (.ret v) ∧ EP X pins σ Q v s') X.xe { s with heap := h', toks := tk } := by
    intro x its h' tk I1 hk ⟨xs, rv, rd⟩
    have hl : its.length = ds.length := by rw [← rv.length, rd.length]
    refine wpAny_bind (wpAny_newList ?_ (by rw [hl]; exact hS.len))
    have hoL : (h'.push (seqObj "list" its.toArray 0)).get? h'.objs.size = some (seqObj "list" its.toArray 0) := Heap.get?_push_size _ rfl
    have I2 : L2.Inv X pins σ (upd H h'.objs.size (.lst xs)) { s with heap := h'.push (seqObj "list" its.toArray 0), toks := tk } := I1.lnew (t' := tk) rv (by rw [rd.length]; exact hS.len)
    have nH : H h'.objs.size = none := I1.hok.fresh (Nat.le_refl _)
    have gH : G h'.objs.size = none := by
      cases e : G h'.objs.size with
      | none => rfl
      | some o => rw [hG _ _ e] at nH; cases nH
    show wpAny _ _ _ _ _ { s with heap := h'.push (seqObj "list" its.toArray 0), toks := tk }
    obtain ⟨e1, e2⟩ := each_of I1 hG rv rd hS.py
    have e2' : W.EachIs (fun u d => ∃ as, Reads (h'.push (seqObj "list" its.toArray 0)) u (pyD d) as ∧ h'.objs.size ∉ as) its ds := e2.mono fun u d ⟨as, r⟩ => ⟨as, PyProof.Rows.Reads.keeps (fun _ _ e => Heap.get?_push_of_some _ e) r, fun hm => Nat.lt_irrefl _ (reads_lt r _ hm)⟩
    refine wpAny_bind (wpAny_holding (W.list_sort_data (s := { s with heap := h'.push (seqObj "list" its.toArray 0), toks := tk }) hoL e1 e2' hS.alike hS.sortable hS.len (fun b hb => ?_) fun out ho eo => ?_))
    · have := hS.dep b hb
      show X.A.units + 1 + 1 + _ < _
      omega
    · obtain ⟨ys, ry, rd'⟩ := each_back eo
      obtain ⟨e', he'⟩ := PyProof.Rows.sortedHeap_at (vs := its) (out := out.toArray) hoL
      refine wpAny_pure ⟨_, rfl, .ref h'.objs.size, upd H h'.objs.size (.lst ys), I1.laid (t' := tk) (fun b u e => ?_) (Nat.le_refl _) (show ObjOk X.prog X.w _ _ _ (.lst ys) from ⟨by rw [ry.length, ho]; exact hS.len, out, e', ry, he'⟩), rfl, k _ ys nH rd'⟩
      have hb : b < h'.objs.size := Heap.lt_size e
      rw [PyProof.Rows.sortedHeap_old (Nat.ne_of_lt hb) (by rw [size_push']; exact Nat.lt_succ_of_lt hb)]
      exact Heap.get?_push_of_some _ e
  rcases hsrc with ⟨a, L, kvs, rfl, hsy, hR, hE, rfl⟩ | ⟨a, xs, rfl, hH, hx⟩
  · obtain ⟨u, rfl, ru⟩ := vals1 rs
    cases ru
    obtain ⟨es, ep, raw, hsz, pr⟩ := raw_of I hR
    refine Calls.call_function_entry PyProof.Rows.kind_sorted PyProof.Rows.plain_sorted PyProof.Rows.entry_sorted (PyProof.Rows.args_sorted1 _) ?_
    unfold Builtin.«sorted»
    refine wpAny_bind (m := checkCount "sorted" 1 1 _) (wpAny_pure ?_)
    refine wpAny_bind (PySem.W.kdu_collect (A := X.A.in1) (PySem.KdlSrc.rawDict (es := es) (ep := ep) hsy) (I.ok.hd hc) raw (by rw [hsz, hE.length]; have := hS.len; rw [List.length_map] at this; exact this) fun h' tk acc hk hacc => ?_)
    have hacc' : acc.toList = es.toList.map (·.key) := by
      refine List.ext_getElem? fun j => ?_
      rw [List.getElem?_map]
      by_cases hj : j < es.size
      · have hja : j < acc.size := by rw [hacc.1]; exact hj
        obtain ⟨hi, e⟩ := hacc.2 j acc[j] (Array.getElem?_eq_getElem hja)
        rw [Array.getElem?_toList, Array.getElem?_toList, Array.getElem?_eq_getElem hja, Array.getElem?_eq_getElem hj, e]
        rfl
      · rw [List.getElem?_eq_none (by rw [Array.length_toList, hacc.1]; omega), List.getElem?_eq_none (by rw [Array.length_toList]; omega)]
        rfl
    have I1 : L2.Inv X pins σ H { s with heap := h', toks := tk } := I.kept hk
    exact go .none acc.toList h' tk I1 hk ⟨_, by rw [hacc']; exact vals_keys pr, hE.keys⟩
  · obtain ⟨u, rfl, ru⟩ := vals1 rs
    cases ru
    obtain ⟨z, its, n, rv, hl, e⟩ := I.lstM hH
    refine Calls.call_function_entry PyProof.Rows.kind_sorted PyProof.Rows.plain_sorted PyProof.Rows.entry_sorted (PyProof.Rows.args_sorted1 _) ?_
    unfold Builtin.«sorted»
    refine wpAny_bind (m := checkCount "sorted" 1 1 _) (wpAny_pure ?_)
    refine wpAny_bind (collect_list ⟨_, e, rfl, _, rfl⟩ ?_ (by rw [← hl]; exact z))
    have hk : ∀ b o, s.heap.get? b = some o → ((s.heap.push (seqObj "list" #[] 0)).update s.heap.objs.size (Obj.mapSeq (· ++ its.toArray))).get? b = some o := fun b o q => by
      rw [Heap.get?_update_ne _ _ _ _ (Nat.ne_of_lt (Heap.lt_size q))]
      exact Heap.get?_push_of_some _ q
    exact go .none its _ s.toks (I.kept (t' := s.toks) hk) hk ⟨xs, rv, hx⟩
theorem pd_sortDic {kvs : List (D × D)} (l : DV M1 da kvs) (hS : Srt (kvs.map (·.1))) (hu : X.A.units + 100 < cLine) (hm : X.mg "sorted" = none) (ha : PD X T ρ M a da M1) (hc : X.calm = true := by rfl) (hg : Gl X "sorted" := by rfl) (he : starEach [a] X.env = (false, eval a X.env) :: starEach [] X.env := by rfl) :
    PD X T ρ M (.Call (.Name "sorted" p) [a] [] pos) (.lst (sortD (kvs.map (·.1)))) M1 :=
  pd_callB (cr_sortD hc hu) (fun G H vs Q hs r k => by
    obtain ⟨v, rfl, rr⟩ := r.one
    obtain ⟨q, L, rfl, e, hE, hD⟩ := l.get hs rr
    exact ⟨_, G, hs.sub, hS, .inl ⟨q, L, kvs, rfl, hD.sys, e, hE, rfl⟩, fun q' ys hq r => k _ _ _ (Step.newI hs hq) (hs.new hq fun _ z => by cases z) (.lst upd_same (r.up (up_upd (hs.freshG hq))))⟩) hm (by decide +kernel) (pdl_1 ha he) hg (by decide) (by decide) he
theorem pd_sortL (l : LV M1 da ds) (hS : Srt ds) (hu : X.A.units + 100 < cLine) (hm : X.mg "sorted" = none) (ha : PD X T ρ M a da M1) (hc : X.calm = true := by rfl) (hg : Gl X "sorted" := by rfl) (he : starEach [a] X.env = (false, eval a X.env) :: starEach [] X.env := by rfl) :
    PD X T ρ M (.Call (.Name "sorted" p) [a] [] pos) (.lst (sortD ds)) M1 :=
  pd_callB (cr_sortD hc hu) (fun G H vs Q hs r k => by
    obtain ⟨v, rfl, rr⟩ := r.one
    obtain ⟨q, xs, rfl, e, rx⟩ := l.get hs rr
    exact ⟨_, G, hs.sub, hS, .inr ⟨q, xs, rfl, e, rx⟩, fun q' ys hq r => k _ _ _ (Step.newI hs hq) (hs.new hq fun _ z => by cases z) (.lst upd_same (r.up (up_upd (hs.freshG hq))))⟩) hm (by decide +kernel) (pdl_1 ha he) hg (by decide) (by decide) he
end
end LW

set_option Elab.async false
set_option linter.all false
set_option maxRecDepth 100000
set_option maxHeartbeats 4000000
/-! LN: comprehensions known by a relation, min and max with a default, a tuple by an int, the script. -/
namespace LW
open PySem PySem.Spec PyProof.Rows L2
open Sem (wp)
section
variable {X : Cx} {T : List Addr} {ρ : List (Option D)} {M M1 M2 M3 : Mem} {d da db : D} {a b c e o elt iter tg : Expr} {pos p p2 tpos : Pos} {ds : List D} {ok : Mem → Prop} {scope : Scope} {g : TG} {is : List Nat} {unp : D → Option (List D)} {own : List (Str × Nat)}
/-! ### [elt for tg in iter] by a relation -/
theorem pdr_lc (R : Nat → List D → Mem → Prop) (hi : PDI X T ρ M tg iter ds M1 ok) (hN : X.N.Nodup) (bk : BlkOk X.N X.env.scope scope own) (hg : Blks X scope fun X' => PG X' tg g) (ht : Tgt X.w g is unp) (hv : ∀ i ∈ is, i ∈ own.map (·.2))
    (h0 : R 0 [] M1) (hok : ∀ i acc m, R i acc m → ok m) (hl : ∀ i acc m, R i acc m → acc.length ≤ 16000000) (hu : ∀ (i : Nat) (d : D), ds[i]? = some d → ∃ us, unp d = some us)
    (hee : ∀ (i : Nat) (d : D) (us : List D) acc m, ds[i]? = some d → unp d = some us → R i acc m → Blks X scope fun X' => PDR X' T (setsD (wipeD ρ (own.map (·.2))) is us) m elt (fun d' m' => R (i + 1) (acc ++ [d']) m'))
    (hc : X.calm = true := by rfl) (hs : ∀ x, foldedSetIterable iter X.env x = pure x := by intro _; rfl) : PDR X T ρ M (.ListComp elt [⟨tg, iter, [], 0⟩] scope pos) (fun d m => ∃ acc, d = .lst acc ∧ R ds.length acc m) := by
  have hbody : Blks X scope fun X' => PE X' elt (fun σ H Q => ∃ x : Nat × D × List D × List D × Mem, (ds[x.1]? = some x.2.1 ∧ unp x.2.1 = some x.2.2.1 ∧ R x.1 x.2.2.2.1 x.2.2.2.2) ∧ tER X.w T (setsD (wipeD ρ (own.map (·.2))) is x.2.2.1) x.2.2.2.2 (fun d' m' => R (x.1 + 1) (x.2.2.2.1 ++ [d']) m') σ H Q) := fun s H C cl fp =>
    PE.ex fun x => PE.exB fun q => hee x.1 x.2.1 x.2.2.1 x.2.2.2.1 x.2.2.2.2 q.1 q.2.1 q.2.2 s H C cl fp
  refine (pe_lc hc hN hi bk hg (fun s H C cl fp => pts_nil) hbody hs).imp fun σ H Q ⟨G, hs, sl, k⟩ => ?_
  generalize own.map (·.2) = vs at *
  refine ⟨G, hs, sl, fun J G1 H1 st1 hs1 it L hL => ?_⟩
  obtain ⟨a1, t1⟩ := hs1.own (ob := .lst []) (o := .lst []) hL (fun _ z => by cases z) fun H' e => ⟨[], e, .nil⟩
  refine ⟨fun i m H' => m = ds.length - i ∧ i ≤ ds.length ∧ ∃ G' acc M', R i acc M' ∧ Step G1 H1 M1 G' H' (M' ++ [some (L, .lst acc)]) ∧ HS X.w T G' H' (M' ++ [some (L, .lst acc)]), ⟨_, rfl, Nat.zero_le _, G1, [], M1, h0, t1, a1⟩, ?_⟩
  rintro i m H' ⟨rfl, hle, G', acc, M', hR, st', hs'⟩
  have hsl : HS X.w T G' H' M' := hs'.left
  have st0 : Step G1 H1 M1 G' H' M' := ⟨st'.up, st'.new, st'.keep, fun a h => st'.adr_ a (by rw [adr_app]; exact List.mem_append_left _ h)⟩
  by_cases hlt : i < ds.length
  · refine .inr ⟨it.go i G' H' _ hlt st0 hsl (hok i acc M' hR), fun H2 => ∃ m', m' < ds.length - i ∧ (m' = ds.length - (i + 1) ∧ i + 1 ≤ ds.length ∧ ∃ G2 acc2 M2, R (i + 1) acc2 M2 ∧ Step G1 H1 M1 G2 H2 (M2 ++ [some (L, .lst acc2)]) ∧ HS X.w T G2 H2 (M2 ++ [some (L, .lst acc2)])), fun H2 q => q, fun x H2 hy => ?_⟩
    have hd' : ds[i]? = some ds[i] := List.getElem?_eq_getElem hlt
    obtain ⟨us, hus⟩ := hu i _ hd'
    obtain ⟨G2, st2, hs2, r⟩ := it.yld i G' H' M' x H2 _ st0 hsl (hok i acc M' hR) hd' hy
    obtain ⟨st2', hs2'⟩ := frame_ok hs' st2 hs2
    refine ht.ok T x (L2.wipe σ vs) G2 H2 M' _ _ us hs2 r hus fun σ3 hsl3 hw => ⟨?_, ?_⟩
    · rw [hw vs hv]
      exact wipe_wipe fun _ h => h
    · dsimp only [tYes]
      rw [if_pos rfl]
      refine ⟨(i, ds[i], us, acc, M'), ⟨hd', hus, hR⟩, G2, hs2, hsl3 _ (((sl.up st1.up).up (st'.up)).up st2.up |>.wipe vs), fun y G5 H5 d5 M5 hR5 st5 hs5 ry => ?_⟩
      obtain ⟨st5', hs5'⟩ := frame_ok hs2' st5 hs5
      obtain ⟨g0, xacc, hacc, racc⟩ := hs5'.mem L (.lst acc) (List.mem_append_right _ List.mem_cons_self)
      have hj : (M5 ++ [some (L, Ob.lst acc)])[M5.length]? = some (some (L, .lst acc)) := by
        rw [List.getElem?_append_right (Nat.le_refl _), Nat.sub_self]
        rfl
      have hset : (M5 ++ [some (L, Ob.lst acc)]).set M5.length (some (L, .lst (acc ++ [d5]))) = M5 ++ [some (L, .lst (acc ++ [d5]))] := by
        rw [List.set_append_right _ _ (Nat.le_refl _), Nat.sub_self]
        rfl
      obtain ⟨a6, t6⟩ := hs5'.put (ob' := .lst (acc ++ [d5])) (o := .lst (xacc ++ [y])) hj (fun _ z => by cases z) fun H' e => ⟨_, e, racc.app (.cons ry .nil)⟩
      rw [hset] at a6 t6
      refine ⟨xacc, hacc, ?_, _, by omega, rfl, hlt, G5, acc ++ [d5], M5, hR5, (((st'.trans st2').trans st5').trans t6), a6⟩
      have := hl i acc M' hR
      rw [racc.length]
      show acc.length < 16777216
      omega
  · have e : i = ds.length := Nat.le_antisymm hle (Nat.le_of_not_lt hlt)
    subst e
    refine .inl ⟨it.stop G' H' _ st0 hsl (hok _ _ _ hR), ?_⟩
    obtain ⟨g0, xacc, hacc, racc⟩ := hs'.mem L (.lst acc) (List.mem_append_right _ List.mem_cons_self)
    have hj : (M' ++ [some (L, Ob.lst acc)])[M'.length]? = some (some (L, .lst acc)) := by
      rw [List.getElem?_append_right (Nat.le_refl _), Nat.sub_self]
      rfl
    obtain ⟨a6, t6⟩ := hs'.freeze hj hacc fun _ z => by cases z
    have hset : (M' ++ [some (L, Ob.lst acc)]).set M'.length none = M' ++ [none] := by
      rw [List.set_append_right _ _ (Nat.le_refl _), Nat.sub_self]
      rfl
    rw [hset] at a6 t6
    have t7 := (st1.trans st').trans t6
    exact k (.ref L) _ H' _ _ ⟨acc, rfl, hR⟩ ⟨t7.up, t7.new, t7.keep, fun a h => t7.adr_ a (by rw [adr_app]; exact List.mem_append_left _ h)⟩ a6.left (.lst upd_same (racc.up (up_upd g0)))
/-! ### min, max of a list of ints with default= -/
def rBestDf (best : Int → List Int → Int) : List V → List V → Hp → VK → Prop := fun vs zs H Q => ∃ (a : Addr) (ns : List Int) (z : V), vs = [.ref a] ∧ zs = [z] ∧ H a = some (.lst (ns.map V.int)) ∧ (ns = [] → Q z H) ∧ ∀ n r, ns = n :: r → Q (.int (best n r)) H
theorem reads_ints {h : Heap} : ∀ {us : List Value} {ns : List Int}, Vals (ns.map V.int) us → ReadsAll h us (ns.map PyData.int) []
  | us, [], r => by cases r; exact .nil
  | us, n :: ns, r => by
    cases r with
    | cons r1 r2 =>
      obtain ⟨t, rfl⟩ := r1
      exact .cons (as := []) (bs := []) (.int _ _) (reads_ints r2)
theorem alike_ints (ns : List Int) : W.AlikeAll (ns.map PyData.int) := by
  refine ⟨fun x hx y hy => ?_, fun x hx => ?_⟩
  · obtain ⟨i, _, rfl⟩ := List.mem_map.mp hx
    obtain ⟨j, _, rfl⟩ := List.mem_map.mp hy
    rfl
  · obtain ⟨i, _, rfl⟩ := List.mem_map.mp hx
    exact fun z => by cases z
theorem cr_minDf (hc : X.calm = true) (hu : X.A.units + 10 < cLine) : CallRK X (.builtin "min") [Str.ofString "default"] (rBestDf fun n r => r.foldl min n) := by
  intro pins s σ H vs zs us ws Q I r1 r2 ⟨a, ns, z, e1, e2, hH, q0, q1⟩
  subst e1 e2
  obtain ⟨u, rfl, ru⟩ := vals1 r1
  cases ru
  obtain ⟨dz, rfl, rz⟩ := vals1 r2
  obtain ⟨z', its, n, rv, hl, e⟩ := I.lstM hH
  refine W.min_list_default (vs := its.toArray) (I.ok.hd hc) ⟨_, e, rfl, _, rfl⟩ (by simpa using reads_ints rv) (alike_ints ns) (by rw [W.depth_ints]; omega) (fun e0 h' tk hk => ?_) fun y ys i v h' tk bs e0 hv hr hk => ?_
  · exact ⟨z, H, I.kept (t' := tk) hk, rz, q0 (by simpa using e0)⟩
  · cases ns with
    | nil => cases e0
    | cons m ms =>
      cases e0
      rw [W.minD_ints] at hr
      cases hr with
      | int _ t => exact ⟨.int _, H, I.kept (t' := tk) hk, ⟨t, rfl⟩, q1 _ _ rfl⟩
theorem cr_maxDf (hc : X.calm = true) (hu : X.A.units + 10 < cLine) : CallRK X (.builtin "max") [Str.ofString "default"] (rBestDf fun n r => r.foldl max n) := by
  intro pins s σ H vs zs us ws Q I r1 r2 ⟨a, ns, z, e1, e2, hH, q0, q1⟩
  subst e1 e2
  obtain ⟨u, rfl, ru⟩ := vals1 r1
  cases ru
  obtain ⟨dz, rfl, rz⟩ := vals1 r2
  obtain ⟨z', its, n, rv, hl, e⟩ := I.lstM hH
  refine W.max_list_default (vs := its.toArray) (I.ok.hd hc) ⟨_, e, rfl, _, rfl⟩ (by simpa using reads_ints rv) (alike_ints ns) (by rw [W.depth_ints]; omega) (fun e0 h' tk hk => ?_) fun y ys i v h' tk bs e0 hv hr hk => ?_
  · exact ⟨z, H, I.kept (t' := tk) hk, rz, q0 (by simpa using e0)⟩
  · cases ns with
    | nil => cases e0
    | cons m ms =>
      cases e0
      rw [W.maxD_ints] at hr
      cases hr with
      | int _ t => exact ⟨.int _, H, I.kept (t' := tk) hk, ⟨t, rfl⟩, q1 _ _ rfl⟩
def bestD (best : Int → List Int → Int) (ns : List Int) (dz : D) : D := match ns with
  | [] => dz
  | n :: r => .int (best n r)
theorem pd_bestDf {x : Str} {id : String} {best : Int → List Int → Int} {ns : List Int} {dz : D} {kpos : Pos} (hcr : CallRK X (.builtin id) [Str.ofString "default"] (rBestDf best)) (hv : bootBuiltins x = some (.builtin id)) (l : LV M2 da (ns.map D.int)) (hm : X.mg x = none) (ha : PD X T ρ M a da M1) (hb : PD X T ρ M1 b dz M2)
    (hg : Gl X x := by rfl) (hn : x ≠ "__name__" := by decide) (hdb : (x == ("__debug__" : Str)) = false := by decide) (he0 : starEach [a] X.env = (false, eval a X.env) :: starEach [] X.env := by rfl)
    (he : backTo pos (starEach [a] X.env) = (false, eval a X.env) :: backTo pos (starEach [] X.env) := by rfl) (hpl : (backTo pos (starEach [a] X.env)).any (·.1) = false := by rfl)
    (hall : (backToKw pos (keywordEach [⟨some (Str.ofString "default"), b, kpos⟩] X.env)).all (·.1.isSome) = true := by rfl) (hnone : (backToKw pos (keywordEach [⟨some (Str.ofString "default"), b, kpos⟩] X.env)).any (·.1.isNone) = false := by rfl)
    (hks : (backToKw pos (keywordEach [⟨some (Str.ofString "default"), b, kpos⟩] X.env)).filterMap (·.1) = [Str.ofString "default"] := by rfl) :
    PD X T ρ M (.Call (.Name x p) [a] [⟨some (Str.ofString "default"), b, kpos⟩] pos) (bestD best ns dz) M2 :=
  (pe_callBK hcr hg hm hv (pdl_1 ha he0) (pk_cons hb pk_nil) hn hdb he hpl hall hnone hks).imp fun σ H Q ⟨G, hs, sl, k⟩ => ⟨G, hs, sl, fun vs G1 H1 st1 hs1 r1 => ⟨G1, hs1, sl.up st1.up, fun z G2 H2 st2 hs2 rz => by
    obtain ⟨v, rfl, rr⟩ := r1.one
    obtain ⟨q, xs, rfl, e, rx⟩ := l.get hs2 (rr.up st2.up)
    refine ⟨q, ns, z, rfl, rfl, by rw [e, rx.ints], fun e0 => ?_, fun n r e0 => ?_⟩
    · subst e0
      exact k z G2 H2 (st1.trans st2) hs2 rz
    · subst e0
      exact k _ G2 H2 (st1.trans st2) hs2 (.int _)⟩⟩
/-! ### a tuple by 1 -/
theorem tuple_mul1 (l : Addr) (items : Array Value) (n : Nat) (dd : Option Addr) (sl : Array (Option Value)) (u : Tok) :
    Meets (Builtin.«tuple.__mul__» ⟨[.ref l, .int 1 u], []⟩) (fun _ R s => s.heap.get? l = some { cls := .type "tuple", dict := dd, data := .seq items n, slots := sl } ∧ R (.ok (.ret (Value.ref l))) s) :=
  .of_wp fun prog w A R s h => by
    obtain ⟨hp, g, d, tk, os⟩ := s
    obtain ⟨hl, h⟩ := h
    have f1 := AutoSeq1.idx_int
    have c0 : (decide ((1 : Int) < -(2 ^ 63)) || decide ((1 : Int) ≥ 2 ^ 63)) = false := by decide
    have c1 : (items.isEmpty || (1 : Int) == 1) = true := by cases items.isEmpty <;> rfl
    wp_walk using wpAny_loadPart' hl
    repeat (first
      | (refine wpAny_ite_false (decide_eq_false (by rw [c0]; exact Bool.false_ne_true)) ?_; wp_walk using wpAny_loadPart' hl)
      | (refine wpAny_ite_true (decide_eq_true c1) ?_; wp_walk using wpAny_loadPart' hl))
    all_goals exact ⟨_, rfl, h⟩
theorem op_rep1 : OpR X (binaryOp .Mult) (fun x y H Q => ∃ l xs, x = .ref l ∧ y = .int 1 ∧ SqT X.K H l xs ∧ Q (.ref l) H) := by
  intro pins s σ H x y v u Q I rx ry h
  obtain ⟨l, xs, rfl, rfl, hT, q⟩ := h
  cases rx
  obtain ⟨t, rfl⟩ := ry
  obtain ⟨its, r, ⟨⟨cls, dd, data, sl⟩, ho, hc, n, hd⟩, hs⟩ := I.tuple hT
  simp only at hc hd
  subst hc hd
  refine wpAny_binaryOp_repeat_ref (T := "tuple") (U := "int") (by decide) ⟨_, ho, rfl⟩ (fun s' => typeIs_int s' 1 t) noFill_tuple_mul F.fills_int_mul F.slot_int_rmul repeat_tuple F.slot_int_index.lookup
    (call_meets F.slot_int_rmul (typeIs_int s 1 t) F.entry_int_rmul (F.args_int_rmul_2 _ _) (int_rmul_tuple 1 t l its.toArray n dd sl)
      ⟨ho, rfl, ⟨_, ho, rfl⟩, call_meets F.slot_tuple_mul ⟨_, ho, rfl⟩ F.entry_tuple_mul (F.args_tuple_mul_2 _ _) (tuple_mul1 l its.toArray n dd sl t) ⟨ho, ?_⟩⟩)
  exact ⟨.ref l, H, I, rfl, q⟩
/-- (d,) * k, 1 ≤ k -/
theorem pd_repT1 {k : Int} (h1 : 1 ≤ k) (h2 : k ≤ 1000) (ha : PD X T ρ M a (.tup [d]) M1) (hb : PD X T ρ M1 b (.int k) M2) : PD X T ρ M (.BinOp a .Mult b pos) (.tup (List.replicate k.toNat d)) M2 := by
  by_cases hk : k = 1
  · subst hk
    exact pd_op op_rep1 (fun G H v u Q hs r1 r2 kk => by
      obtain ⟨q, xs, rfl, e, r⟩ := r1.tupH hs
      cases r2
      exact ⟨q, xs, rfl, rfl, SqT.of e, kk _ G H (Step.refl _ _ _) hs r1⟩) ha hb
  · refine pd_cast (pd_repT (by simp) (by omega) h2 (by show 1 ≤ 1000; decide) ha hb) ?_
    congr 1
    generalize k.toNat = n
    induction n with
    | zero => rfl
    | succ n ih => rw [List.replicate_succ, List.flatten_cons, ih, List.replicate_succ]; rfl
end
section
variable {prog : Program} {w : World} {A : Around} {E : Value → Shared → Prop} {s : Shared} {l : Addr} {its : List Value} {ns : List Int} {Q : Value → Shared → Prop}
theorem sum_rawT (hh : A.handled = none) (hl : s.heap.IsTuple l its.toArray) (hi : IntsAre its ns)
    (h : ∀ h' tk t', (∀ b o, s.heap.get? b = some o → h'.get? b = some o) → Q (.int ns.sum t') { s with heap := h', toks := tk }) : wpAny (model prog w) A (call (.builtin "sum") [.ref l]) Q E s := by
  obtain ⟨xs, e⟩ := hi.allInts.items
  have hn : numsOf (intItems xs).toList = ns := by rw [← e]; exact hi.numsOf
  rw [nums_intItems] at hn
  rw [e] at hl
  refine PySem.call_sum_walkAnyS (W.iter_tupleW (A := A.in1) hh hl fun s₂ es Wk st hfp hwr hk => ?_)
  refine ⟨_, _, _, _, _, _, _, numAt xs, rfl, Wk, st, hfp, (fun _ _ => intItems_at), fun s' t' hm => ?_⟩
  obtain ⟨h', tk, rfl, hk'⟩ := W.moved_old es rfl hm
  have q := h h' tk t' hk'
  have e2 : preSum (numAt xs) (intItems xs).size = ns.sum := by
    rw [preSum_eq, List.take_of_length_le (by simp [intItems]), hn]
  rw [e2]
  exact q
end
section
variable {X : Cx} {T : List Addr} {ρ : List (Option D)} {M M1 M2 M3 : Mem} {a : Expr} {pos p : Pos}
theorem cr_sumT (hc : X.calm = true) : CallR X (.builtin "sum") (fun vs H Q => ∃ (a : Addr) (ns : List Int), vs = [V.ref a] ∧ SqT X.K H a (ns.map V.int) ∧ Q (.int ns.sum) H) := by
  intro pins s σ H vs us Q I r h
  obtain ⟨a, ns, rfl, hs, q⟩ := h
  obtain ⟨its, rv, hl, _⟩ := I.tuple hs
  rw [Vals.ref1 r]
  exact sum_rawT (I.ok.hd hc) hl rv.ints fun h' tk t' hk => ⟨.int _, H, I.kept hk, ⟨_, rfl⟩, q⟩
theorem pd_sumT {ns : List Int} (hm : X.mg "sum" = none) (ha : PD X T ρ M a (.tup (ns.map D.int)) M1) (hc : X.calm = true := by rfl) (hg : Gl X "sum" := by rfl) (he : starEach [a] X.env = (false, eval a X.env) :: starEach [] X.env := by rfl) :
    PD X T ρ M (.Call (.Name "sum" p) [a] [] pos) (.int ns.sum) M1 :=
  pd_callB (cr_sumT hc) (fun G H vs Q hs r k => by
    obtain ⟨v, rfl, rr⟩ := r.one
    obtain ⟨p, xs, rfl, e, r⟩ := rr.tupH hs
    exact ⟨p, ns, rfl, SqT.of (r.ints ▸ e), k _ G H (Step.refl _ _ _) hs (.int _)⟩) hm (by decide +kernel) (pdl_1 ha he) hg (by decide) (by decide) he
end
end LW

set_option Elab.async false
set_option linter.all false
set_option maxRecDepth 100000
set_option maxHeartbeats 4000000
/-! LO: defs from the head, the script, the dice. -/
namespace LW
open PySem PySem.Spec PyProof.Rows L2
theorem funC_of {K : PySem.W.Frag} {x qual : Str} {st : Stmt} {dvs : List V} {kws : List (Str × V)} {p : Str × Option Str} {fd : FuncData} (F : FunD K x qual (defArgs st) (defBody st) (defScope st) dvs kws (He.fAd K p) fd) : FunC K x qual st (He.fAd K p) fd (.ref (He.codeOf K p)) := by
  obtain ⟨oc, od, dV, kV, doc, pm, an, cdv, ct, osl, e1, e2, e3, e4, e5⟩ := F.ex
  obtain ⟨c, hc⟩ := He.codeIn_ref e3
  subst hc
  have q := He.codeOf_eq (p := p) e2 (by rw [e1])
  refine ⟨⟨oc, od, dV, kV, doc, pm, an, ct, osl, ?_, e2, ?_⟩, F.kp⟩
  · rw [q]; exact e1
  · rw [q]; exact e3
theorem gk_of {P : Program} {w : World} {K : PySem.W.Frag} {mg : Str → Option Value} {base : Heap} {N : List Str} {qual : Str} {scope : Scope} {f : Addr} {p : Str × Option Str} {A : Around} {outer : List Env} {s : Shared} {H : Hp} {E : XK} {T : List Addr} {k : Nat}
    (tb : LamX.TabB base mg (He.cT K p).1 (He.cT K p).2) (hT : (He.cT K p).2 ∈ T) (hr : Room (k + 1) (A.deeper (envOfC qual scope s.heap.objs.size f (.ref (He.codeOf K p))))) (hN : N.Nodup) :
    GK (cxOf CX0 P w K mg base N qual scope f (.ref (He.codeOf K p)) A outer s H E).nox T k :=
  ⟨⟨_, _, ⟨tb.code, tb.bm, tb.gP⟩, rfl, hT⟩, hr, rfl, hN⟩
/-! ### the script -/
section
variable {X : Cx} {T : List Addr} {ρ : List (Option D)} {M M1 : Mem} {d : D} {e : Expr} {pos p p2 : Pos}
/-- tE, a foreign list of ints at a besides -/
def tES (K : PySem.W.Frag) (w : World) (T : List Addr) (ρ : List (Option D)) (M : Mem) (a : Addr) (ns : List Int) (R : D → Mem → Prop) : TE := fun σ H Q => SqL K H a (ns.map V.int) ∧ tER w T ρ M R σ H Q
/-- script[:1], the script and the number by their slots -/
theorem pe_script {a : Addr} {ns : List Int} {j : Int} (is ij : Nat) {xs xj : Str} {p3 : Pos} (hs : ρ[is]? = some (some (.ref a)) := by rfl) (hj : ρ[ij]? = some (some (.int j)) := by rfl) (h1 : X.N[is]? = some xs := by rfl) (h2 : X.N[ij]? = some xj := by rfl)
    (v1 : Vis X.env.scope xs := by first | exact Or.inl rfl | exact Or.inr (Or.inl rfl)) (v2 : Vis X.env.scope xj := by first | exact Or.inl rfl | exact Or.inr (Or.inl rfl)) (d1 : (xs == ("__debug__" : Str)) = false := by decide) (d2 : (xs == ("__classdict__" : Str)) = false := by decide) (d3 : (xj == ("__debug__" : Str)) = false := by decide) (d4 : (xj == ("__classdict__" : Str)) = false := by decide) :
    PE X (.Subscript (.Name xs p) (.Slice none (some (.Name xj p2)) none p3) pos) (tES X.K X.w T ρ M a ns (fun d m => d = .lst ((cutD ns none (some j)).map D.int) ∧ m = M)) :=
  (pe_slice sl_list (pv is h1 v1 d1 d2) po_none (po_some (pv ij h2 v2 d3 d4))).imp fun σ H Q ⟨hS, G, hs', sl, k⟩ => by
    obtain ⟨v, e1, r1⟩ := sl.at_ is _ hs
    obtain ⟨u, e2, r2⟩ := sl.at_ ij _ hj
    cases r1
    cases r2
    refine ⟨_, e1, _, e2, _, rfl, ?_⟩
    refine ⟨a, _, rfl, hS, fun q hq => ?_⟩
    refine k _ _ _ _ _ ⟨rfl, rfl⟩ (Step.newI hs' hq) (hs'.new hq fun _ z => by cases z) (.lst upd_same ?_)
    have e : cutV (ns.map V.int) none (some j) = (cutD ns none (some j)).map V.int := by
      unfold cutV cutD
      rw [List.length_map, List.map_take, List.map_drop]
    rw [e]
    exact DtL.ofInts _
/-- a block that begins with y = e, e read beside the script -/
theorem pbS_set {a : Addr} {ns : List Int} {R : D → Mem → Prop} {rest : List Stmt} {Nx : List (Option D) → Mem → Prop} {Rt : D → Mem → Prop} (i : Nat) {x : Str} {px : Pos} (he : PE X e (tES X.K X.w T ρ M a ns R)) (hN : X.N.Nodup) (k : ∀ d m, R d m → PB X T (ρ.set i (some d)) m rest Nx Rt)
    (hi : X.N[i]? = some x := by rfl) (hx : Loc X.env.scope x := by first | exact Or.inl rfl | exact Or.inr rfl) (hs : swapsWith e (some (.Name x px)) pos.line X.env = pure false := by rfl) (hf : X.fn x = true ∨ X.env.scope.names.lookup x = some .local := by first | exact .inl rfl | exact .inr rfl | assumption) :
    PSs X (.Assign [.Name x px] e pos :: rest) (fun Dd σ H => SqL X.K H a (ns.map V.int) ∧ tB X.w T ρ M Nx Rt Dd σ H) :=
  PSs.imp (pss_cons (ps_set hN hi hx he hs hf) (PSs.ex fun (x : D × Mem) => PSs.exB (P := R x.1 x.2) (k x.1 x.2))) fun Dd σ H ⟨hS, G, hs', sl, k1, k2⟩ => by
    refine ⟨hS, G, hs', sl, fun v G' H' d m r st hs2 rd => ⟨(d, m), r, G', hs2, (sl.up st.up).set i rd, fun σ2 G2 H2 ρ2 M2 n2 st2 hs2' sl2 => k1 σ2 G2 H2 ρ2 M2 n2 (st.trans st2) hs2' sl2, fun v2 G2 H2 d2 M2 r2 st2 hs2' rd2 => k2 v2 G2 H2 d2 M2 r2 (st.trans st2) hs2' rd2⟩⟩
/-- the promise of a def that is given the script and a number -/
def spS (K : PySem.W.Frag) (w : World) (T : List Addr) (ok : List Int → Prop) (j : Int) (post : List Int → D → Mem → Prop) : Sp := fun vs H Q _ => ∃ (a : Addr) (ns : List Int) (G : Hp), vs = [.ref a, .int j] ∧ ok ns ∧ SqL K H a (ns.map V.int) ∧ HS w T G H [] ∧
  ∀ v G' H' d M', post ns d M' → Step G H [] G' H' M' → HS w T G' H' M' → Dt w G' v d → Q v H'
theorem fnS_ok {P : Program} {w : World} {K : PySem.W.Frag} {mg : Str → Option Value} {base : Heap} {T : List Addr} {nm qual : Str} {st : Stmt} {f : Addr} {fd : FuncData} {cdv : Value} {N ps : List Str} {k : Nat} {ok : List Int → Prop} {j : Int} {post : List Int → D → Mem → Prop} (F : FunC K nm qual st f fd cdv) (S : FnScope N ps (defScope st))
    (hb : ∀ (a : Addr) (ns : List Int) (A : Around) (outer : List Env) (s : Shared) (H : Hp) (E : XK), ok ns → Room k (A.deeper (envOfC qual (defScope st) s.heap.objs.size f cdv)) →
      PSs (cxOf CX0 P w K mg base N qual (defScope st) f cdv A outer s H E).nox (defBody st) (fun Dd σ H => SqL K H a (ns.map V.int) ∧ tB w T (slots N [.ref a, .int j]) [] (fun _ m => post ns .non m) (post ns) Dd σ H))
    (hl : ps.length = 2 := by rfl) : FnOk P w K mg base CX0 (k + 1) f fd ps (spS K w T ok j post) := by
  obtain ⟨oc, od, dV, kV, doc, pm, an, ct, osl, rfl, lk, hcd⟩ := F.ex
  refine fn_of lk hcd S (fun vs H Q E h => ?_) fun A outer s H vs Q E hr hsp => ?_
  · obtain ⟨a, ns, G, rfl, _⟩ := h
    rw [hl]
    rfl
  · obtain ⟨a, ns, G, rfl, ho, hS, hs, k⟩ := hsp
    refine ⟨_, (hb a ns A outer s H E ho hr).nox, hS, G, hs, SL.start (.cons (.ref a) (.cons (.int j) .nil)), fun σ' G' H' ρ' M' n st hs' sl' => ?_, fun v G' H' d M' n st hs' rd => k v G' H' d M' n st hs' rd⟩
    exact k .non G' H' .non M' n st hs' .non
/-- the law's own promise -/
def spLaw (K : PySem.W.Frag) (w : World) (T : List Addr) (ok : List Int → Prop) : Sp := fun vs H Q _ => ∃ (a : Addr) (ns : List Int), vs = [.ref a] ∧ ok ns ∧ SqL K H a (ns.map V.int) ∧ HS w T (fun _ => none) H [] ∧ ∀ H', Q (.bl true) H'
/-- for tg in f(script, j): .. -/
theorem psS_for {a : Addr} {ns : List Int} {k : Nat} {f : Addr} {fd : FuncData} {ps : List Str} {ok : List Int → Prop} {j : Int} {post : List Int → D → Mem → Prop} {nm : Str} {es : Expr} {tg : Expr} {body rest : List Stmt} {g : TG} {is : List Nat} {unp : D → Option (List D)} {ρ : List (Option D)} {Nx : List (Option D) → Mem → Prop} {Rt : D → Mem → Prop} {i0 : Nat} {xs : Str} {pa pj cpos fpos : Pos} {jj : Nat}
    (F : FnOk X.prog X.w X.K X.mg X.base CX0 k f fd ps (spS X.K X.w T ok j post)) (hr : Room k X.A) (hm : X.mg nm = some (.ref f)) (hk : PySem.W.keepIn X.K (.ref f) = true) (hb : Binds X.K fd ps []) (hok : ok ns)
    (hs : ρ[i0]? = some (some (.ref a))) (h1 : X.N[i0]? = some xs) (v1 : Vis X.env.scope xs) (d1 : (xs == ("__debug__" : Str)) = false) (d2 : (xs == ("__classdict__" : Str)) = false)
    (hlist : ∀ d m, post ns d m → ∃ ds, d = .lst ds) (hg : PG X tg g) (ht : Tgt X.w g is unp) (W : List D → Nat → List (Option D) → Mem → Prop) (h0 : ∀ ds m, post ns (.lst ds) m → W ds 0 ρ m)
    (hu : ∀ ds m, post ns (.lst ds) m → ∀ (i : Nat) (d : D), ds[i]? = some d → ∃ us, unp d = some us)
    (hbd : ∀ ds m, post ns (.lst ds) m → ∀ (i : Nat) (d : D) (us : List D) ρ' M', ds[i]? = some d → unp d = some us → W ds i ρ' M' → PB X T (setsD ρ' is us) M' body (W ds (i + 1)) Rt)
    (hd : ∀ ds m, post ns (.lst ds) m → ∀ ρ' M', W ds ds.length ρ' M' → PB X T ρ' M' rest Nx Rt)
    (hgl : Gl X nm := by rfl) (hdb : (nm == ("__debug__" : Str)) = false := by decide) (he : starEach [.Name xs pa, .Constant (.int j) jj pj] X.env = (false, eval (.Name xs pa) X.env) :: starEach [.Constant (.int j) jj pj] X.env := by rfl) (he2 : starEach [.Constant (.int j) jj pj] X.env = (false, eval (.Constant (.int j) jj pj) X.env) :: starEach [] X.env := by rfl)
    (hpl : (backTo cpos (starEach [.Constant (.int j) jj pj] X.env)).any (·.1) = false := by rfl) (hp : PassesOwn (model X.prog X.w) X.A X.env X.xe := by exact PassesOwn.never) (hc : X.calm = true := by rfl) (hfs : ∀ x, foldedSetIterable (.Call (.Name nm p) [.Name xs pa, .Constant (.int j) jj pj] [] cpos) X.env x = pure x := by intro _; rfl) :
    PSs X (.For tg (.Call (.Name nm p) [.Name xs pa, .Constant (.int j) jj pj] [] cpos) body [] fpos :: rest) (fun Dd σ H => SqL X.K H a (ns.map V.int) ∧ tB X.w T ρ [] Nx Rt Dd σ H) := by
  have hcall := pe_call (p := p) (pos := cpos) F hr hgl hm hk hb .nil pass0 (pa_cons (pv i0 (pos := pa) h1 v1 d1 d2) (pa_cons (pe_int (i := j)) pa_nil he2) he) hdb he hpl
  have hbody := PSs.ex fun (x : List D × Mem × Nat × D × List D × List (Option D) × Mem) => PSs.exB (P := post ns (.lst x.1) x.2.1 ∧ x.1[x.2.2.1]? = some x.2.2.2.1 ∧ unp x.2.2.2.1 = some x.2.2.2.2.1 ∧ W x.1 x.2.2.1 x.2.2.2.2.2.1 x.2.2.2.2.2.2) fun q =>
    hbd x.1 x.2.1 q.1 x.2.2.1 x.2.2.2.1 x.2.2.2.2.1 x.2.2.2.2.2.1 x.2.2.2.2.2.2 q.2.1 q.2.2.1 q.2.2.2
  have hrest := PSs.ex fun (x : List D × Mem × List (Option D) × Mem) => PSs.exB (P := post ns (.lst x.1) x.2.1 ∧ W x.1 x.1.length x.2.2.1 x.2.2.2) fun q => hd x.1 x.2.1 q.1 x.2.2.1 x.2.2.2 q.2
  refine PSs.imp (pss_cons (ps_for hp hc (pi_list hcall) hg hbody hfs) hrest) fun Dd σ H ⟨hS, G, hs', sl, k1, k2⟩ => ?_
  obtain ⟨v, e1, r1⟩ := sl.at_ i0 _ hs
  cases r1
  refine ⟨_, e1, a, ns, G, rfl, hok, hS, hs', fun v G1 H1 d m hpo st1 hs1 rd => ?_⟩
  obtain ⟨ds, rfl⟩ := hlist d m hpo
  cases rd with
  | lst eg rx =>
    rename_i q xs'
    have it : ItD X.w T (fun _ => True) ds (Itl X.K q) G1 H1 m := ⟨fun i G2 H2 M2 hi st2 hs2 hok => by
        have hl : i < xs'.length := by rw [rx.length]; exact hi
        exact ⟨xs', xs'[i], SqL.of (hs2.sub _ _ (st2.up _ _ eg)), List.getElem?_eq_getElem hl⟩, fun i G2 H2 M2 x H' d st2 hs2 hok hd hy => by
        obtain ⟨rfl, hx⟩ := hy
        obtain ⟨u, hu, ru⟩ := rx.get hd
        have := hx xs' (SqL.of (hs2.sub _ _ (st2.up _ _ eg)))
        rw [hu] at this
        cases this
        exact ⟨G2, Step.refl _ _ _, hs2, ru.up st2.up⟩, fun G2 H2 M2 st2 hs2 hok => ⟨xs', SqL.of (hs2.sub _ _ (st2.up _ _ eg)), by rw [rx.length]; exact Nat.le_refl _⟩⟩
    refine ⟨q, rfl, ⟨xs', SqL.of (hs1.sub _ _ eg)⟩, ?_⟩
    refine ⟨fun i mm σ' H' => mm = ds.length - i ∧ i ≤ ds.length ∧ ∃ G' ρ' M', W ds i ρ' M' ∧ Step G1 H1 m G' H' M' ∧ HS X.w T G' H' M' ∧ SL X.w G' σ' ρ', ⟨_, rfl, Nat.zero_le _, G1, ρ, m, h0 ds m hpo, Step.refl _ _ _, hs1, sl.up st1.up⟩, ?_⟩
    rintro i mm σ' H' ⟨rfl, hle, G', ρ', M', hW, st', hs2, sl'⟩
    by_cases hlt : i < ds.length
    · refine .inr ⟨it.go i G' H' M' hlt st' hs2 trivial, fun σ2 H2 => ∃ m', m' < ds.length - i ∧ (m' = ds.length - (i + 1) ∧ i + 1 ≤ ds.length ∧ ∃ G2 ρ2 M2, W ds (i + 1) ρ2 M2 ∧ Step G1 H1 m G2 H2 M2 ∧ HS X.w T G2 H2 M2 ∧ SL X.w G2 σ2 ρ2), fun σ2 H2 q => q, fun x H2 hy => ?_⟩
      have hd' : ds[i]? = some ds[i] := List.getElem?_eq_getElem hlt
      obtain ⟨us, hus⟩ := hu ds m hpo i _ hd'
      obtain ⟨G2, st2, hs3, r⟩ := it.yld i G' H' M' x H2 _ st' hs2 trivial hd' hy
      refine ht.ok T x σ' G2 H2 M' _ _ us hs3 r hus fun σ3 hsl _ => ⟨(ds, m, i, ds[i], us, ρ', M'), ⟨hpo, hd', hus, hW⟩, G2, hs3, hsl ρ' (sl'.up st2.up), fun σ4 G4 H4 ρ4 M4 hn st4 hs4 sl4 => ?_, fun v G4 H4 d4 M4 hr st4 hs4 rd => ?_⟩
      · exact ⟨_, by omega, rfl, hlt, G4, ρ4, M4, hn, (st'.trans st2).trans st4, hs4, sl4⟩
      · exact k2 v G4 H4 d4 M4 hr (((st1.trans st').trans st2).trans st4) hs4 rd
    · have e : i = ds.length := Nat.le_antisymm hle (Nat.le_of_not_lt hlt)
      subst e
      refine .inl ⟨it.stop G' H' M' st' hs2 trivial, (ds, m, ρ', M'), ⟨hpo, hW⟩, G', hs2, sl', fun σ4 G4 H4 ρ4 M4 hn st4 hs4 sl4 => k1 σ4 G4 H4 ρ4 M4 hn ((st1.trans st').trans st4) hs4 sl4, fun v G4 H4 d4 M4 hr st4 hs4 rd => k2 v G4 H4 d4 M4 hr ((st1.trans st').trans st4) hs4 rd⟩
end
/-! ### the dice -/
abbrev Dice := Int × Int × Int
def diceD (c : Dice) : List D := [.int c.1, .int c.2.1, .int c.2.2]
def big (c : Dice) : Bool := decide (c.2.2 = 2) || (decide (c.2.2 = 1) && decide (0 < c.1))
def mixed (c : Dice) : Int := (c.1 * 48271 + c.2.1 * 69621 + 11) % 2147483647
def rollV (c : Dice) (m : Int) : Int := if big c = true then c.1 % m else (mixed c / 7 + mixed c) % m
def rollC (c : Dice) (m : Int) : Dice := if big c = true then (c.1 / m, c.2.1, c.2.2) else (mixed c, c.2.1 + 1, 0)
theorem rollV_range (c : Dice) {m : Int} (h : 0 < m) : 0 ≤ rollV c m ∧ rollV c m < m := by
  unfold rollV
  split
  · exact ⟨Int.emod_nonneg _ (by omega), Int.emod_lt_of_pos _ h⟩
  · exact ⟨Int.emod_nonneg _ (by omega), Int.emod_lt_of_pos _ h⟩
/-- a roll's argument -/
structure RollA where
  p : Addr
  c : Dice
  m : Int
  h : 0 < m ∧ m < 1073741824
def diceOf (z : Int) : Dice := if decide (0 - 10 < z) && decide (z < 10) then ((if z < 0 then -z else z), 0, 2) else (z, 1 + z % 1009, if decide (10 ^ 18 ≤ z) then 1 else 0)
/-- what _law_rounds gives: one dice -/
def roundsPost (ns : List Int) (d : D) (m : Mem) : Prop := ∃ (p : Addr) (z : Int), d = .lst [.ref p] ∧ m = [some (p, .lst (diceD (diceOf z)))]
end LW

set_option Elab.async false
set_option linter.all false
set_option maxRecDepth 100000
set_option maxHeartbeats 4000000
/-! LP: defs that may be called. -/
namespace LW
open PySem PySem.Spec PyProof.Rows L2
theorem un_of {k n : Nat} {A : Around} (h : Room k A) (hn : n ≤ 200) : A.units + n < cLine := by have := h.un; omega
structure Cal (P : Program) (w : World) (K : PySem.W.Frag) (mg : Str → Option Value) (base : Heap) (k : Nat) (f : Addr) (ps : List Str) (sp : Sp) : Prop where
  ex : ∃ fd, FnOk P w K mg base CX0 k f fd ps sp ∧ Binds K fd ps []
  kp : PySem.W.keepIn K (.ref f) = true
/-- by its own value: nothing that is owned is touched -/
abbrev spP (w : World) (T : List Addr) {α : Type} (args : α → List D) (val : α → D) : Sp := spC w T args (fun _ => []) (fun x d m => d = val x ∧ m = [])
section
variable {X : Cx} {T : List Addr} {ρ : List (Option D)} {M M1 M2 M3 : Mem} {d da db dc : D} {a b c e o : Expr} {es : List Expr} {pos p apos : Pos} {ds dvs : List D} {R : D → Mem → Prop}
  {α : Type} {args : α → List D} {Mf : α → Mem} {post : α → D → Mem → Prop} {k : Nat} {f C : Addr} {ps : List Str} {nm : Str} {val : α → D}
theorem pdr_cC (x : α) {Mo : Mem → Mem} (Cl : Cal X.prog X.w X.K X.mg X.base k f ps (spC X.w T args Mf post)) (hr : Room k X.A) (hm : X.mg nm = some (.ref f))
    (ha : PDL X T ρ M (e :: es) ds M1) (hx : args x = ds) (fr : Fram M1 (Mf x) Mo) (hg : Gl X nm := by rfl) (hdb : (nm == ("__debug__" : Str)) = false := by decide) (he : starEach (e :: es) X.env = (false, eval e X.env) :: starEach es X.env := by rfl) (hpl : (backTo pos (starEach es X.env)).any (·.1) = false := by rfl) :
    PDR X T ρ M (.Call (.Name nm p) (e :: es) [] pos) (fun d m => ∃ m', m = Mo m' ∧ post x d m') := by
  obtain ⟨fd, F, hb⟩ := Cl.ex
  exact pdr_call x F hr hm Cl.kp hb ha hx fr hg hdb he hpl
theorem pd_cC (x : α) (Cl : Cal X.prog X.w X.K X.mg X.base k f ps (spP X.w T args val)) (hr : Room k X.A) (hm : X.mg nm = some (.ref f))
    (ha : PDL X T ρ M (e :: es) ds M1) (hx : args x = ds) (hg : Gl X nm := by rfl) (hdb : (nm == ("__debug__" : Str)) = false := by decide) (he : starEach (e :: es) X.env = (false, eval e X.env) :: starEach es X.env := by rfl) (hpl : (backTo pos (starEach es X.env)).any (·.1) = false := by rfl) :
    PD X T ρ M (.Call (.Name nm p) (e :: es) [] pos) (val x) M1 :=
  pd_ofR (pdr_cC x (Mo := fun m => M1 ++ m) Cl hr hm ha hx Fram.none hg hdb he hpl) fun d m ⟨m', e1, e2, e3⟩ => ⟨e2, by rw [e1, e3, List.append_nil]⟩
/-- o.m(..), o a datum or ours; nothing owned but what is named is touched -/
theorem pdr_mC (x : α) {Mo : Mem → Mem} {fs : List (Str × D)} {pl : Sem Bool} (Cl : Cal X.prog X.w X.K X.mg X.base k f ps (spC X.w T args Mf post)) (hr : Room k X.A) (c : Cls X.K C) (hm : Meth X.K C nm f)
    (ho : PD X T ρ M o da M1) (ov : OV M1 da C fs) (ha : PDL X T ρ M1 (e :: es) ds M2) (hx : args x = da :: ds) (fr : Fram M2 (Mf x) Mo) (hl : fs.lookup nm = none := by rfl)
    (hst : starEach (e :: es) X.env = (false, eval e X.env) :: starEach es X.env := by rfl) (hpl : (backTo pos (starEach es X.env)).any (·.1) = false := by rfl)
    (ht : eval (.Call (.Attribute o nm apos) (e :: es) [] pos) X.env = (do
      let ov ← eval o X.env
      standAt apos.atName
      let (f, first) ← holding [ov] (getMethod ov nm pl)
      callWith pos f first (backTo pos (starEach (e :: es) X.env)) (backToKw pos (keywordEach [] X.env))) := by rfl) :
    PDR X T ρ M (.Call (.Attribute o nm apos) (e :: es) [] pos) (fun d m => ∃ m', m = Mo m' ∧ post x d m') := by
  obtain ⟨fd, F, hb⟩ := Cl.ex
  exact pdr_meth x F hr c hm hb ho ov ha hx fr hl hst hpl ht
theorem pdr_mC0 (x : α) {Mo : Mem → Mem} {fs : List (Str × D)} {pl : Sem Bool} (Cl : Cal X.prog X.w X.K X.mg X.base k f ps (spC X.w T args Mf post)) (hr : Room k X.A) (c : Cls X.K C) (hm : Meth X.K C nm f)
    (ho : PD X T ρ M o da M1) (ov : OV M1 da C fs) (hx : args x = [da]) (fr : Fram M1 (Mf x) Mo) (hl : fs.lookup nm = none := by rfl)
    (ht : eval (.Call (.Attribute o nm apos) [] [] pos) X.env = (do
      let ov ← eval o X.env
      standAt apos.atName
      let (f, first) ← holding [ov] (getMethod ov nm pl)
      callWith pos f first (backTo pos (starEach [] X.env)) (backToKw pos (keywordEach [] X.env))) := by rfl) :
    PDR X T ρ M (.Call (.Attribute o nm apos) [] [] pos) (fun d m => ∃ m', m = Mo m' ∧ post x d m') := by
  obtain ⟨fd, F, hb⟩ := Cl.ex
  exact pdr_meth0 x F hr c hm hb ho ov hx fr hl ht
/-- the same, by a value, what is owned stays -/
theorem pd_mC (x : α) {fs : List (Str × D)} {pl : Sem Bool} (Cl : Cal X.prog X.w X.K X.mg X.base k f ps (spP X.w T args val)) (hr : Room k X.A) (c : Cls X.K C) (hm : Meth X.K C nm f)
    (ho : PD X T ρ M o da M1) (ov : OV M1 da C fs) (ha : PDL X T ρ M1 (e :: es) ds M2) (hx : args x = da :: ds) (hl : fs.lookup nm = none := by rfl)
    (hst : starEach (e :: es) X.env = (false, eval e X.env) :: starEach es X.env := by rfl) (hpl : (backTo pos (starEach es X.env)).any (·.1) = false := by rfl)
    (ht : eval (.Call (.Attribute o nm apos) (e :: es) [] pos) X.env = (do
      let ov ← eval o X.env
      standAt apos.atName
      let (f, first) ← holding [ov] (getMethod ov nm pl)
      callWith pos f first (backTo pos (starEach (e :: es) X.env)) (backToKw pos (keywordEach [] X.env))) := by rfl) :
    PD X T ρ M (.Call (.Attribute o nm apos) (e :: es) [] pos) (val x) M2 :=
  pd_ofR (pdr_mC x (Mo := fun m => M2 ++ m) Cl hr c hm ho ov ha hx Fram.none hl hst hpl ht) fun d m ⟨m', e1, e2, e3⟩ => ⟨e2, by rw [e1, e3, List.append_nil]⟩
theorem pdr_makeC {g : Addr} (x : Addr → α) (Cl : Cal X.prog X.w X.K X.mg X.base k g ps (spC X.w T args Mf post)) (hM : Mk X.K C g) (hr : Room (k + 1) X.A) (hm : X.mg nm = some (.ref C))
    (ha : PDL X T ρ M (e :: es) ds M1) (hx : ∀ q, args (x q) = .ref q :: ds) (hf : ∀ q, Mf (x q) = [some (q, .obj C [])]) (hp : ∀ q d m, post (x q) d m → d = .non)
    (hg : Gl X nm := by rfl) (hdb : (nm == ("__debug__" : Str)) = false := by decide) (he : starEach (e :: es) X.env = (false, eval e X.env) :: starEach es X.env := by rfl) (hpl : (backTo pos (starEach es X.env)).any (·.1) = false := by rfl) :
    PDR X T ρ M (.Call (.Name nm p) (e :: es) [] pos) (fun d m => ∃ q m', d = .ref q ∧ m = M1 ++ m' ∧ post (x q) .non m') := by
  obtain ⟨fd, F, hb⟩ := Cl.ex
  exact pdr_makeD (Mr := fun _ => []) x F hM hr hm hb .nil Dfl.nil ha (fun q => by rw [hx, List.append_nil]) hf hp hg hdb he hpl
end
end LW

set_option Elab.async false
set_option linter.all false
set_option maxRecDepth 100000
set_option maxHeartbeats 4000000
/-! LQ: types of data: their ==, their order, dicts whose keys they are. -/
namespace LW
open PySem PySem.Spec PyProof.Rows L2
section
variable {α β : Type} [DecidableEq α] [DecidableEq β]
/-- α's values as data: f; as plain data: g -/
structure EncP (n : Nat) (f : α → D) (g : α → PyData) : Prop where
  py : ∀ a, (f a).py = some (g a)
  eqv : ∀ a b, PyData.eqv (g a) (g b) = decide (a = b)
  alike : ∀ a b, PySem.W.alike (g a) (g b) = true
  lay : ∀ a, (g a).canLay0 = true
  dep : ∀ a, (g a).depth ≤ n
/-- as keys -/
structure EncK (n : Nat) (f : α → D) (k : α → NestedKey) : Prop where
  nk : ∀ a, (f a).nk = some (k a)
  inj : ∀ a b, k a = k b → a = b
  dep : ∀ a, (k a).depth ≤ n
theorem encP_int : EncP 0 D.int PyData.int := ⟨fun _ => rfl, fun a b => by
  show (a == b) = _
  by_cases h : a = b
  · subst h; simp
  · simp [h], fun a b => by simp [PySem.W.alike], fun _ => rfl, fun _ => Nat.le_refl _⟩
theorem encP_bl : EncP 0 D.bl PyData.bool := ⟨fun _ => rfl, fun a b => by cases a <;> cases b <;> rfl, fun a b => by simp [PySem.W.alike], fun _ => rfl, fun _ => Nat.le_refl _⟩
theorem encK_int : EncK 0 D.int NestedKey.num := ⟨fun _ => rfl, fun a b h => by injection h, fun _ => by simp [NestedKey.depth]⟩
theorem encK_bl : EncK 0 D.bl (fun b => NestedKey.num (if b = true then 1 else 0)) := ⟨fun _ => rfl, fun a b h => by
  injection h with h
  cases a <;> cases b <;> first | rfl | exact absurd h (by decide), fun _ => by simp [NestedKey.depth]⟩
variable {n m : Nat} {f : α → D} {g : α → PyData} {k : α → NestedKey} {f' : β → D} {g' : β → PyData} {k' : β → NestedKey}
theorem EncP.pys (E : EncP n f g) : ∀ xs : List α, D.pys (xs.map f) = some (xs.map g)
  | [] => rfl
  | a :: r => by
    show (match (f a).py, D.pys (r.map f) with | some k, some ks => some (k :: ks) | _, _ => none) = _
    rw [E.py, E.pys r]
    rfl
theorem EncP.eqvs (E : EncP n f g) : ∀ xs ys : List α, PyData.eqvAll (xs.map g) (ys.map g) = decide (xs = ys)
  | [], [] => by simp [PyData.eqvAll]
  | [], _ :: _ => by simp [PyData.eqvAll]
  | _ :: _, [] => by simp [PyData.eqvAll]
  | a :: r, b :: t => by
    rw [List.map_cons, List.map_cons, PySem.W.eqv_all_cons, E.eqv, E.eqvs r t]
    by_cases h1 : a = b <;> by_cases h2 : r = t <;> simp [h1, h2]
theorem EncP.alikes (E : EncP n f g) : ∀ xs ys : List α, PySem.W.alikeAll (xs.map g) (ys.map g) = true
  | [], _ => by simp [PySem.W.alikeAll]
  | _ :: _, [] => by simp [PySem.W.alikeAll]
  | a :: r, b :: t => by
    rw [List.map_cons, List.map_cons, PySem.W.alikeAll, E.alike, E.alikes r t]
    rfl
theorem EncP.lays (E : EncP n f g) : ∀ xs : List α, PyData.canLayAll0 (xs.map g) = true
  | [] => rfl
  | a :: r => by
    show ((g a).canLay0 && PyData.canLayAll0 (r.map g)) = true
    rw [E.lay, E.lays r]
    rfl
theorem EncP.deps (E : EncP n f g) : ∀ xs : List α, PyData.depthAll (xs.map g) ≤ n
  | [] => Nat.zero_le _
  | a :: r => by
    show max (g a).depth (PyData.depthAll (r.map g)) ≤ n
    exact Nat.max_le.mpr ⟨E.dep a, E.deps r⟩
theorem EncP.tup (E : EncP n f g) : EncP (n + 1) (fun xs : List α => D.tup (xs.map f)) (fun xs => PyData.tuple (xs.map g)) where
  py xs := by
    show (D.pys (xs.map f)).map _ = _
    rw [E.pys]
    rfl
  eqv xs ys := E.eqvs xs ys
  alike xs ys := by
    show PySem.W.alike (.tuple _) (.tuple _) = true
    rw [PySem.W.alike]
    exact E.alikes xs ys
  lay xs := E.lays xs
  dep xs := Nat.succ_le_succ (E.deps xs)
theorem EncP.lst (E : EncP n f g) : EncP (n + 1) (fun xs : List α => D.lst (xs.map f)) (fun xs => PyData.list (xs.map g)) where
  py xs := by
    show (D.pys (xs.map f)).map _ = _
    rw [E.pys]
    rfl
  eqv xs ys := E.eqvs xs ys
  alike xs ys := by
    show PySem.W.alike (.list _) (.list _) = true
    rw [PySem.W.alike]
    exact E.alikes xs ys
  lay xs := E.lays xs
  dep xs := Nat.succ_le_succ (E.deps xs)
theorem EncP.pair (E : EncP n f g) (E' : EncP n f' g') : EncP (n + 1) (fun p : α × β => D.tup [f p.1, f' p.2]) (fun p => PyData.tuple [g p.1, g' p.2]) where
  py p := by
    show (D.pys [f p.1, f' p.2]).map _ = _
    have e : D.pys [f p.1, f' p.2] = some [g p.1, g' p.2] := by
      show (match (f p.1).py, (match (f' p.2).py, D.pys [] with | some k, some ks => some (k :: ks) | _, _ => none) with | some k, some ks => some (k :: ks) | _, _ => none) = _
      rw [E.py, E'.py]
      rfl
    rw [e]
    rfl
  eqv p q := by
    show PyData.eqvAll [g p.1, g' p.2] [g q.1, g' q.2] = _
    rw [PySem.W.eqv_all_cons, PySem.W.eqv_all_cons, E.eqv, E'.eqv]
    obtain ⟨a, b⟩ := p
    obtain ⟨c, d⟩ := q
    by_cases h1 : a = c <;> by_cases h2 : b = d <;> simp [h1, h2, PyData.eqvAll]
  alike p q := by
    show PySem.W.alike (.tuple _) (.tuple _) = true
    rw [PySem.W.alike, PySem.W.alikeAll, PySem.W.alikeAll, E.alike, E'.alike]
    simp [PySem.W.alikeAll]
  lay p := by
    show ((g p.1).canLay0 && ((g' p.2).canLay0 && true)) = true
    rw [E.lay, E'.lay]
    rfl
  dep p := by
    show max (g p.1).depth (max (g' p.2).depth 0) + 1 ≤ n + 1
    have h1 := E.dep p.1
    have h2 := E'.dep p.2
    omega
theorem EncK.nks (E : EncK n f k) : ∀ xs : List α, D.nks (xs.map f) = some (xs.map k)
  | [] => rfl
  | a :: r => by
    show (match (f a).nk, D.nks (r.map f) with | some k, some ks => some (k :: ks) | _, _ => none) = _
    rw [E.nk, E.nks r]
    rfl
theorem EncK.deps (E : EncK n f k) : ∀ xs : List α, NestedKey.depthAll (xs.map k) ≤ n
  | [] => by simp [NestedKey.depthAll]
  | a :: r => by
    rw [List.map_cons, NestedKey.depthAll]
    exact Nat.max_le.mpr ⟨E.dep a, E.deps r⟩
theorem EncK.injs (E : EncK n f k) : ∀ xs ys : List α, xs.map k = ys.map k → xs = ys
  | [], [], _ => rfl
  | [], _ :: _, h => by cases h
  | _ :: _, [], h => by cases h
  | a :: r, b :: t, h => by
    rw [List.map_cons, List.map_cons] at h
    injection h with h1 h2
    rw [E.inj _ _ h1, E.injs r t h2]
theorem EncK.tup (E : EncK n f k) : EncK (n + 1) (fun xs : List α => D.tup (xs.map f)) (fun xs => NestedKey.tup (xs.map k)) where
  nk xs := by
    show (D.nks (xs.map f)).map _ = _
    rw [E.nks]
    rfl
  inj xs ys h := by
    injection h with h
    exact E.injs _ _ h
  dep xs := by
    rw [NestedKey.depth]
    exact Nat.succ_le_succ (E.deps xs)
theorem EncK.pair (E : EncK n f k) (E' : EncK n f' k') : EncK (n + 1) (fun p : α × β => D.tup [f p.1, f' p.2]) (fun p => NestedKey.tup [k p.1, k' p.2]) where
  nk p := by
    show (D.nks [f p.1, f' p.2]).map _ = _
    have e : D.nks [f p.1, f' p.2] = some [k p.1, k' p.2] := by
      show (match (f p.1).nk, (match (f' p.2).nk, D.nks [] with | some k, some ks => some (k :: ks) | _, _ => none) with | some k, some ks => some (k :: ks) | _, _ => none) = _
      rw [E.nk, E'.nk]
      rfl
    rw [e]
    rfl
  inj p q h := by
    injection h with h
    injection h with h1 h
    injection h with h2 _
    exact Prod.ext (E.inj _ _ h1) (E'.inj _ _ h2)
  dep p := by
    rw [NestedKey.depth, NestedKey.depthAll, NestedKey.depthAll, NestedKey.depthAll]
    have h1 := E.dep p.1
    have h2 := E'.dep p.2
    omega
/-! equality -/
theorem EncP.pv {M : Mem} (E : EncP n f g) (a : α) : PV M (f a) (g a) := .dat (E.py a)
theorem EncP.shaped (E : EncP n f g) (hn : n ≤ 64) (a : α) : SeqAt.shaped (g a) = true := by
  unfold SeqAt.shaped
  rw [E.lay, decide_eq_true (Nat.le_trans (E.dep a) hn)]
  rfl
theorem pdt_eqE {X : Cx} {T : List Addr} {ρ : List (Option D)} {M M1 M2 : Mem} {a b : Expr} {pos : Pos} {x y : α} (E : EncP n f g) (hu : X.A.units + 64 < cLine) (ha : PD X T ρ M a (f x) M1) (hb : PD X T ρ M1 b (f y) M2) (hn : n ≤ 64 := by decide) (hm : behindInMarks .Eq b = false := by first | exact nomark _ | rfl | with_unfolding_all rfl) : PDT X T ρ M (.Compare a [.Eq] [b] pos) (decide (x = y)) M2 :=
  pdt_eqD hu (E.pv x) (E.pv y) (E.shaped hn x) (E.shaped hn y) (E.eqv x y) ha hb hm
theorem pdt_neE {X : Cx} {T : List Addr} {ρ : List (Option D)} {M M1 M2 : Mem} {a b : Expr} {pos : Pos} {x y : α} (E : EncP n f g) (hu : X.A.units + 64 < cLine) (ha : PD X T ρ M a (f x) M1) (hb : PD X T ρ M1 b (f y) M2) (hn : n ≤ 64 := by decide) (hm : behindInMarks .NotEq b = false := by first | exact nomark _ | rfl | with_unfolding_all rfl) : PDT X T ρ M (.Compare a [.NotEq] [b] pos) (!decide (x = y)) M2 :=
  pdt_neD hu (E.pv x) (E.pv y) (E.shaped hn x) (E.shaped hn y) (by rw [E.eqv x y]) ha hb hm
/-! order -/
def leE (f : α → D) (a b : α) : Bool := PySem.W.dataLe false pyD (f a) (f b)
theorem leE_total (f : α → D) : PySem.W.TotalLe (leE f) := by
  have h := PySem.W.sortLe_total (listOrd itemOrd) false (fun b : D => PySem.W.keyToks (pyD b))
  exact ⟨fun a b c h1 h2 => h.trans _ _ _ h1 h2, fun a b => h.total _ _⟩
def srtE (f : α → D) (xs : List α) : List α := xs.mergeSort (leE f)
theorem sortD_enc (f : α → D) (xs : List α) : sortD (xs.map f) = (srtE f xs).map f := by
  unfold sortD srtE
  exact (PySem.W.sort_maps f fun a _ b _ => rfl).symm
theorem srtE_sorted (f : α → D) (xs : List α) : (srtE f xs).Pairwise (fun a b => leE f a b = true) := PySem.W.sort_pairwise (leE_total f) xs
theorem srtE_perm (f : α → D) (xs : List α) : (srtE f xs).Perm xs := List.mergeSort_perm _ _
theorem srtE_same (f : α → D) {xs : List α} (h : xs.Pairwise (fun a b => leE f a b = true)) : srtE f xs = xs := List.mergeSort_of_pairwise h
theorem EncP.srt (E : EncP n f g) (hn : n ≤ 60) {xs : List α} (hl : xs.length ≤ sizeLine) (hs : (∀ a ∈ xs, ∃ x r, g a = .tuple (x :: r)) ∨ ∀ a ∈ xs, g a ≠ .none ∧ ∀ ys, g a ≠ .tuple ys) : Srt (xs.map f) where
  py d hd := by
    obtain ⟨a, _, rfl⟩ := List.mem_map.mp hd
    exact ⟨_, E.py a⟩
  alike := by
    rw [List.map_map]
    intro d hd d' hd'
    obtain ⟨a, _, rfl⟩ := List.mem_map.mp hd
    obtain ⟨b, _, rfl⟩ := List.mem_map.mp hd'
    show PySem.W.alike (pyD (f a)) (pyD (f b)) = true
    rw [pyD_of (E.py a), pyD_of (E.py b)]
    exact E.alike a b
  sortable := by
    rw [List.map_map]
    rcases hs with hs | hs
    · refine .inl fun d hd => ?_
      obtain ⟨a, ha, rfl⟩ := List.mem_map.mp hd
      show ∃ x r, pyD (f a) = _
      rw [pyD_of (E.py a)]
      exact hs a ha
    · refine .inr fun d hd => ?_
      obtain ⟨a, ha, rfl⟩ := List.mem_map.mp hd
      show pyD (f a) ≠ _ ∧ ∀ ys, pyD (f a) ≠ _
      rw [pyD_of (E.py a)]
      exact hs a ha
  dep d hd := by
    obtain ⟨a, _, rfl⟩ := List.mem_map.mp hd
    rw [pyD_of (E.py a)]
    exact Nat.le_trans (E.dep a) hn
  len := by rw [List.length_map]; exact hl
/-! dict([(key, 1) ..]) -/
def ddp : List α → List α → List α
  | acc, [] => acc
  | acc, x :: r => ddp (if x ∈ acc then acc else acc ++ [x]) r
theorem ddp_mem : ∀ (r acc : List α) (a : α), a ∈ ddp acc r ↔ a ∈ acc ∨ a ∈ r
  | [], acc, a => by simp [ddp]
  | x :: r, acc, a => by
    rw [ddp, ddp_mem r]
    split
    · rename_i h
      constructor
      · rintro (q | q)
        · exact .inl q
        · exact .inr (List.mem_cons_of_mem _ q)
      · rintro (q | q)
        · exact .inl q
        · rcases List.mem_cons.mp q with q | q
          · subst q; exact .inl h
          · exact .inr q
    · rw [List.mem_append, List.mem_singleton, List.mem_cons, or_assoc]
theorem ddp_nodup : ∀ (r acc : List α), acc.Nodup → (ddp acc r).Nodup
  | [], acc, h => h
  | x :: r, acc, h => by
    rw [ddp]
    apply ddp_nodup
    split
    · exact h
    · rename_i hx
      rw [List.nodup_append]
      exact ⟨h, List.nodup_cons.mpr ⟨List.not_mem_nil, List.nodup_nil⟩, fun a ha b hb e => hx (by rw [List.mem_singleton.mp hb] at e; rw [← e]; exact ha)⟩
theorem ddp_len : ∀ (r acc : List α), (ddp acc r).length ≤ acc.length + r.length
  | [], acc => Nat.le_refl _
  | x :: r, acc => by
    rw [ddp]
    refine Nat.le_trans (ddp_len r _) ?_
    split
    · rw [List.length_cons]; omega
    · simp only [List.length_append, List.length_cons, List.length_nil]; omega
theorem ddp_same : ∀ (r acc : List α), (acc ++ r).Nodup → ddp acc r = acc ++ r
  | [], acc, h => by rw [ddp, List.append_nil]
  | x :: r, acc, h => by
    have hx : x ∉ acc := fun q => by
      rw [List.nodup_append] at h
      exact h.2.2 x q x List.mem_cons_self rfl
    rw [ddp, if_neg hx, ddp_same r, List.append_assoc]
    · rfl
    · rw [List.append_assoc]; exact h
def oneD (f : α → D) (a : α) : D × D := (f a, .int 1)
theorem dput_one (E : EncK n f k) (acc : List α) (x : α) : dput (acc.map (oneD f)) (f x) (.int 1) = (if x ∈ acc then acc else acc ++ [x]).map (oneD f) := by
  have ht : (acc.map (oneD f)).any (fun p => nkEq p.1 (f x)) = decide (x ∈ acc) := by
    by_cases h : x ∈ acc
    · rw [decide_eq_true h]
      exact List.any_eq_true.mpr ⟨oneD f x, List.mem_map.mpr ⟨x, h, rfl⟩, by unfold nkEq; exact decide_eq_true rfl⟩
    · rw [decide_eq_false h]
      refine Bool.eq_false_iff.mpr fun q => h ?_
      obtain ⟨p, hp, e⟩ := List.any_eq_true.mp q
      obtain ⟨a, ha, rfl⟩ := List.mem_map.mp hp
      unfold nkEq at e
      have e := of_decide_eq_true e
      have e : (f a).nk = (f x).nk := e
      rw [E.nk, E.nk] at e
      injection e with e
      rw [← E.inj _ _ e]
      exact ha
  unfold dput
  rw [ht]
  by_cases h : x ∈ acc
  · rw [decide_eq_true h, if_pos rfl, if_pos h, List.map_map]
    refine List.map_congr_left fun a _ => ?_
    show (if nkEq (f a) (f x) = true then ((f a), D.int 1) else oneD f a) = oneD f a
    split <;> rfl
  · rw [decide_eq_false h, if_neg Bool.false_ne_true, if_neg h, List.map_append]
    rfl
theorem dmrg_one (E : EncK n f k) : ∀ (xs acc : List α), dmrg (acc.map (oneD f)) (xs.map (oneD f)) = (ddp acc xs).map (oneD f)
  | [], acc => rfl
  | x :: r, acc => by
    show dmrg (dput (acc.map (oneD f)) (f x) (.int 1)) (r.map (oneD f)) = _
    rw [dput_one E, dmrg_one E r]
    rfl
theorem dmrg_ones (E : EncK n f k) (xs : List α) : dmrg [] (xs.map (oneD f)) = (ddp [] xs).map (oneD f) := dmrg_one E xs []
theorem keys_one (f : α → D) (xs : List α) : (xs.map (oneD f)).map (·.1) = xs.map f := by
  rw [List.map_map]
  rfl
end
end LW

set_option Elab.async false
set_option linter.all false
set_option maxRecDepth 100000
set_option maxHeartbeats 4000000
/-! LR: comprehensions over a range, by turns; rolls in a row. -/
namespace LW
open PySem PySem.Spec PyProof.Rows L2
theorem given_all (n : Nat) (el : Nat → D) : given n (fun _ => true) el = (List.range n).map el := by
  unfold given
  rw [List.filter_eq_self.mpr fun _ _ => rfl]
theorem rngD_at {n : Nat} {i : Nat} {d : D} {us : List D} (h : (rngD 0 n)[i]? = some d) (hu : (fun d : D => some [d]) d = some us) : i < n ∧ us = [.int i] := by
  obtain ⟨h1, h2⟩ := rngD_get h
  cases hu
  exact ⟨h1, by rw [h2, Int.zero_add]⟩
section
variable {X : Cx} {T : List Addr} {ρ : List (Option D)} {M M1 : Mem} {d : D} {elt iter tg : Expr} {ifs : List Expr} {pos p tpos : Pos} {scope : Scope} {g : TG} {own : List (Str × Nat)} {n : Nat}
theorem pd_lcN {Ms Mt : Nat → Mem} {kp : Nat → Bool} {el : Nat → D} (ik : Nat) (hi : PDI X T ρ M tg iter (rngD 0 n) M1 (fun _ => True)) (hN : X.N.Nodup) (bk : BlkOk X.N X.env.scope scope own) (hg : Blks X scope fun X' => PG X' tg g) (ht : Tgt X.w g [ik] fun d => some [d]) (hv : ∀ i ∈ [ik], i ∈ own.map (·.2))
    (h0 : Ms 0 = M1) (hno : ∀ i, i < n → kp i = false → Mt i = Ms (i + 1)) (hz : n ≤ 16000000)
    (htt : ∀ (i : Nat), i < n → Blks X scope fun X' => PDTs X' T (setsD (wipeD ρ (own.map (·.2))) [ik] [.int i]) (Ms i) ifs (kp i) (Mt i))
    (hee : ∀ (i : Nat), i < n → kp i = true → Blks X scope fun X' => PD X' T (setsD (wipeD ρ (own.map (·.2))) [ik] [.int i]) (Mt i) elt (el i) (Ms (i + 1)))
    (hc : X.calm = true := by rfl) (hs : ∀ x, foldedSetIterable iter X.env x = pure x := by intro _; rfl) : PD X T ρ M (.ListComp elt [⟨tg, iter, ifs, 0⟩] scope pos) (.lst (given n kp el)) (Ms n) := by
  have h := pd_lcI (Ms := Ms) (Mt := Mt) (kp := kp) (el := el) (pos := pos) (elt := elt) (ifs := ifs) hi hN bk hg ht hv h0 (fun _ _ => trivial) (fun i d h => ⟨_, rfl⟩) (fun i h1 h2 => hno i (by rw [rngD_length] at h1; exact h1) h2) (by rw [rngD_length]; exact hz)
    (fun i d us h1 h2 => by obtain ⟨h3, rfl⟩ := rngD_at h1 h2; exact htt i h3) (fun i d us h1 h2 h4 => by obtain ⟨h3, rfl⟩ := rngD_at h1 h2; exact hee i h3 h4) hc hs
  rw [rngD_length] at h
  exact h
theorem pb_setLcN {Ms Mt : Nat → Mem} {kp : Nat → Bool} {el : Nat → D} {rest : List Stmt} {Nx : List (Option D) → Mem → Prop} {Rt : D → Mem → Prop} (i ik : Nat) {y : Str} {py spos : Pos} (hi : PDI X T ρ M tg iter (rngD 0 n) M1 (fun _ => True)) (hN : X.N.Nodup) (bk : BlkOk X.N X.env.scope scope own) (hg : Blks X scope fun X' => PG X' tg g) (ht : Tgt X.w g [ik] fun d => some [d]) (hv : ∀ i ∈ [ik], i ∈ own.map (·.2))
    (h0 : Ms 0 = M1) (hno : ∀ i, i < n → kp i = false → Mt i = Ms (i + 1)) (hz : n ≤ 16000000)
    (htt : ∀ (i : Nat), i < n → Blks X scope fun X' => PDTs X' T (setsD (wipeD ρ (own.map (·.2))) [ik] [.int i]) (Ms i) ifs (kp i) (Mt i))
    (hee : ∀ (i : Nat), i < n → kp i = true → Blks X scope fun X' => PD X' T (setsD (wipeD ρ (own.map (·.2))) [ik] [.int i]) (Mt i) elt (el i) (Ms (i + 1)))
    (k : PB X T (ρ.set i (some (.lst (given n kp el)))) (Ms n) rest Nx Rt)
    (hy : X.N[i]? = some y := by rfl) (hyl : X.env.scope.names.lookup y = some .local := by rfl) (hsw : swapsWith (.ListComp elt [⟨tg, iter, ifs, 0⟩] scope pos) (some (.Name y py)) spos.line X.env = pure true := by exact sw_true rfl rfl rfl (by decide +kernel))
    (hc : X.calm = true := by rfl) (hs : ∀ x, foldedSetIterable iter X.env x = pure x := by intro _; rfl) : PB X T ρ M (.Assign [.Name y py] (.ListComp elt [⟨tg, iter, ifs, 0⟩] scope pos) spos :: rest) Nx Rt := by
  refine pb_setLcI (Ms := Ms) (Mt := Mt) (kp := kp) (el := el) i hi hN bk hg ht hv h0 (fun _ _ => trivial) (fun i d h => ⟨_, rfl⟩) (fun i h1 h2 => hno i (by rw [rngD_length] at h1; exact h1) h2) (by rw [rngD_length]; exact hz)
    (fun i d us h1 h2 => by obtain ⟨h3, rfl⟩ := rngD_at h1 h2; exact htt i h3) (fun i d us h1 h2 h4 => by obtain ⟨h3, rfl⟩ := rngD_at h1 h2; exact hee i h3 h4) ?_ hy hyl hsw hc hs
  rw [rngD_length]
  exact k
end
/-! rolls in a row -/
def rollsC (c : Dice) (m : Int) : Nat → Dice
  | 0 => c
  | n + 1 => rollC (rollsC c m n) m
def rollL (c : Dice) (m : Int) (n : Nat) : List Int := (List.range n).map fun i => rollV (rollsC c m i) m
theorem rollL_len (c : Dice) (m : Int) (n : Nat) : (rollL c m n).length = n := by simp [rollL]
theorem rollL_range (c : Dice) {m : Int} (h : 0 < m) (n : Nat) : ∀ x ∈ rollL c m n, 0 ≤ x ∧ x < m := fun x hx => by
  obtain ⟨i, _, rfl⟩ := List.mem_map.mp hx
  exact rollV_range _ h
end LW

set_option Elab.async false
set_option linter.all false
set_option maxRecDepth 100000
set_option maxHeartbeats 4000000
/-! LS: assignments by a relation. -/
namespace LW
open PySem PySem.Spec PyProof.Rows L2
section
variable {X : Cx} {T : List Addr} {ρ : List (Option D)} {M M1 : Mem} {d : D} {e : Expr} {es : List Expr} {pos : Pos} {R : D → Mem → Prop} {rest : List Stmt} {Nx : List (Option D) → Mem → Prop} {Rt : D → Mem → Prop}
theorem pb_asgGR {g : TG} {is : List Nat} {unp : D → Option (List D)} {tg : Expr} (he : PDR X T ρ M e R) (hg : PG X tg g) (ht : Tgt X.w g is unp) (k : ∀ d m, R d m → ∃ us, unp d = some us ∧ PB X T (setsD ρ is us) m rest Nx Rt)
    (hs : swapsWithSole [tg] e pos.line X.env = pure false := by rfl) (hw : swappedStores [tg] e X.env = pure none := by rfl) (h1 : (assignEach [tg] X.env).map (·.2) = [assign tg X.env] := by rfl) : PB X T ρ M (.Assign [tg] e pos :: rest) Nx Rt := by
  refine pb_seq (Nx1 := fun ρ' m => ∃ d us, R d m ∧ unp d = some us ∧ ρ' = setsD ρ is us) (PS.imp (ps_asg he hg hs hw h1) fun Dd σ H ⟨G, hs', sl, k1, k2⟩ => ?_) fun ρ' m ⟨d, us, r, hu, e1⟩ => by
    subst e1
    obtain ⟨us', hu', h⟩ := k d m r
    rw [hu] at hu'
    cases hu'
    exact h
  exact ⟨G, hs', sl, fun v G1 H1 d m r st1 hs1 r1 => by
    obtain ⟨us, hu, _⟩ := k d m r
    exact ht.ok T v σ G1 H1 m _ d us hs1 r1 hu fun σ' hsl _ => k1 σ' G1 H1 _ _ ⟨d, us, r, hu, rfl⟩ st1 hs1 (hsl ρ (sl.up st1.up))⟩
theorem pdlr_imp {RL RL' : List D → Mem → Prop} (h : PDLR X T ρ M es RL) (u : ∀ ds m, RL ds m → RL' ds m) : PDLR X T ρ M es RL' :=
  PA.imp h fun σ H Q ⟨G, hs, sl, k⟩ => ⟨G, hs, sl, fun vs G' H' ds m r => k vs G' H' ds m (u ds m r)⟩
theorem pdr_tup {RL : List D → Mem → Prop} {x1} (h : PDLR X T ρ M es RL) (hl : ∀ ds m, RL ds m → ds.length ≤ sizeLine) : PDR X T ρ M (.Tuple es x1 pos) (fun d m => ∃ ds, d = .tup ds ∧ RL ds m) :=
  (pe_tup h).imp fun σ H Q ⟨G, hs, sl, k⟩ => ⟨G, hs, sl, fun vs G1 H1 ds m rl st1 hs1 r1 => ⟨by rw [r1.length]; exact hl ds m rl, fun p hp =>
    k _ _ _ _ m ⟨ds, rfl, rl⟩ (st1.trans (Step.newI hs1 hp)) (hs1.new hp fun _ q => by cases q) (.tup upd_same (r1.up (up_upd (hs1.freshG hp))))⟩⟩
end
end LW

set_option Elab.async false
set_option linter.all false
set_option maxRecDepth 100000
set_option maxHeartbeats 0
/-! the head of lessonwright_k65_whole_mistakes_at_any_s: defs as data, facts, the run. Printed by mkhead.py. -/
namespace H65
open PySem PySem.Spec PyProof.Rows L2 LW
def top (i : Nat) : Stmt := PySem.Challenge.pw_lessonwright_k65_whole_mistakes_at_any_s.main.body.getD i (.Pass ⟨0, 0, 0, 0⟩)
abbrev s_Vote_init : Stmt := inClass (top 6) 0
abbrev s_Vote_whole_weights : Stmt := inClass (top 6) 1
abbrev s_Vote_guess : Stmt := inClass (top 6) 2
abbrev s_Vote_see : Stmt := inClass (top 6) 3
abbrev s_power : Stmt := top 7
abbrev s_vote_bound : Stmt := top 8
abbrev s_Mix_init : Stmt := inClass (top 9) 0
abbrev s_Mix_shares : Stmt := inClass (top 9) 1
abbrev s_Mix_see : Stmt := inClass (top 9) 2
abbrev s_common : Stmt := top 10
abbrev s_small : Stmt := top 11
abbrev s_added : Stmt := top 12
abbrev s_in_bounds : Stmt := top 13
abbrev s_And_init : Stmt := inClass (top 15) 0
abbrev s_And_has : Stmt := inClass (top 15) 1
abbrev s_And_widened : Stmt := inClass (top 15) 3
abbrev s_And_covers : Stmt := inClass (top 15) 4
abbrev s_Learner_init : Stmt := inClass (top 16) 0
abbrev s_Learner_see : Stmt := inClass (top 16) 1
abbrev s_most_mistakes : Stmt := top 17
abbrev s_check_rules : Stmt := top 19
abbrev s_kept : Stmt := top 20
abbrev s_Halving_init : Stmt := inClass (top 21) 0
abbrev s_Halving_guess : Stmt := inClass (top 21) 1
abbrev s_Halving_see : Stmt := inClass (top 21) 2
abbrev s_most_halvings : Stmt := top 22
abbrev s_inner : Stmt := top 24
abbrev s_check_signed : Stmt := top 25
abbrev s_Parter_init : Stmt := inClass (top 26) 0
abbrev s_Parter_sign : Stmt := inClass (top 26) 1
abbrev s_Parter_see : Stmt := inClass (top 26) 2
abbrev s_margin : Stmt := top 27
abbrev s_side_bound : Stmt := top 28
abbrev s_Winnow_init : Stmt := inClass (top 30) 0
abbrev s_Winnow_guess : Stmt := inClass (top 30) 1
abbrev s_Winnow_see : Stmt := inClass (top 30) 2
abbrev s_logarithm : Stmt := top 31
abbrev s_most_winnow : Stmt := top 32
abbrev s_law_dice : Stmt := top 34
abbrev s_law_roll : Stmt := top 35
abbrev s_law_rounds : Stmt := top 36
abbrev s_law_answers : Stmt := top 37
abbrev s_law : Stmt := top 38
def d_Vote_init : He.DefD := ⟨("Vote", some "__init__"), "__init__", "Vote.__init__", defArgs s_Vote_init, defBody s_Vote_init, defScope s_Vote_init, [], []⟩
def d_Vote_whole_weights : He.DefD := ⟨("Vote", some "whole_weights"), "whole_weights", "Vote.whole_weights", defArgs s_Vote_whole_weights, defBody s_Vote_whole_weights, defScope s_Vote_whole_weights, [], []⟩
def d_Vote_guess : He.DefD := ⟨("Vote", some "guess"), "guess", "Vote.guess", defArgs s_Vote_guess, defBody s_Vote_guess, defScope s_Vote_guess, [], []⟩
def d_Vote_see : He.DefD := ⟨("Vote", some "see"), "see", "Vote.see", defArgs s_Vote_see, defBody s_Vote_see, defScope s_Vote_see, [], []⟩
def d_power : He.DefD := ⟨("power", none), "power", "power", defArgs s_power, defBody s_power, defScope s_power, [], []⟩
def d_vote_bound : He.DefD := ⟨("vote_bound", none), "vote_bound", "vote_bound", defArgs s_vote_bound, defBody s_vote_bound, defScope s_vote_bound, [], []⟩
def d_Mix_init : He.DefD := ⟨("Mix", some "__init__"), "__init__", "Mix.__init__", defArgs s_Mix_init, defBody s_Mix_init, defScope s_Mix_init, [], []⟩
def d_Mix_shares : He.DefD := ⟨("Mix", some "shares"), "shares", "Mix.shares", defArgs s_Mix_shares, defBody s_Mix_shares, defScope s_Mix_shares, [], []⟩
def d_Mix_see : He.DefD := ⟨("Mix", some "see"), "see", "Mix.see", defArgs s_Mix_see, defBody s_Mix_see, defScope s_Mix_see, [], []⟩
def d_common : He.DefD := ⟨("common", none), "common", "common", defArgs s_common, defBody s_common, defScope s_common, [], []⟩
def d_small : He.DefD := ⟨("small", none), "small", "small", defArgs s_small, defBody s_small, defScope s_small, [], []⟩
def d_added : He.DefD := ⟨("added", none), "added", "added", defArgs s_added, defBody s_added, defScope s_added, [], []⟩
def d_in_bounds : He.DefD := ⟨("in_bounds", none), "in_bounds", "in_bounds", defArgs s_in_bounds, defBody s_in_bounds, defScope s_in_bounds, [], []⟩
def d_And_init : He.DefD := ⟨("And", some "__init__"), "__init__", "And.__init__", defArgs s_And_init, defBody s_And_init, defScope s_And_init, [.non], []⟩
def d_And_has : He.DefD := ⟨("And", some "has"), "has", "And.has", defArgs s_And_has, defBody s_And_has, defScope s_And_has, [], []⟩
def d_And_widened : He.DefD := ⟨("And", some "widened"), "widened", "And.widened", defArgs s_And_widened, defBody s_And_widened, defScope s_And_widened, [], []⟩
def d_And_covers : He.DefD := ⟨("And", some "covers"), "covers", "And.covers", defArgs s_And_covers, defBody s_And_covers, defScope s_And_covers, [], []⟩
def d_Learner_init : He.DefD := ⟨("Learner", some "__init__"), "__init__", "Learner.__init__", defArgs s_Learner_init, defBody s_Learner_init, defScope s_Learner_init, [], []⟩
def d_Learner_see : He.DefD := ⟨("Learner", some "see"), "see", "Learner.see", defArgs s_Learner_see, defBody s_Learner_see, defScope s_Learner_see, [], []⟩
def d_most_mistakes : He.DefD := ⟨("most_mistakes", none), "most_mistakes", "most_mistakes", defArgs s_most_mistakes, defBody s_most_mistakes, defScope s_most_mistakes, [], []⟩
def d_check_rules : He.DefD := ⟨("check_rules", none), "check_rules", "check_rules", defArgs s_check_rules, defBody s_check_rules, defScope s_check_rules, [], []⟩
def d_kept : He.DefD := ⟨("kept", none), "kept", "kept", defArgs s_kept, defBody s_kept, defScope s_kept, [], []⟩
def d_Halving_init : He.DefD := ⟨("Halving", some "__init__"), "__init__", "Halving.__init__", defArgs s_Halving_init, defBody s_Halving_init, defScope s_Halving_init, [], []⟩
def d_Halving_guess : He.DefD := ⟨("Halving", some "guess"), "guess", "Halving.guess", defArgs s_Halving_guess, defBody s_Halving_guess, defScope s_Halving_guess, [], []⟩
def d_Halving_see : He.DefD := ⟨("Halving", some "see"), "see", "Halving.see", defArgs s_Halving_see, defBody s_Halving_see, defScope s_Halving_see, [], []⟩
def d_most_halvings : He.DefD := ⟨("most_halvings", none), "most_halvings", "most_halvings", defArgs s_most_halvings, defBody s_most_halvings, defScope s_most_halvings, [], []⟩
def d_inner : He.DefD := ⟨("inner", none), "inner", "inner", defArgs s_inner, defBody s_inner, defScope s_inner, [], []⟩
def d_check_signed : He.DefD := ⟨("check_signed", none), "check_signed", "check_signed", defArgs s_check_signed, defBody s_check_signed, defScope s_check_signed, [], []⟩
def d_Parter_init : He.DefD := ⟨("Parter", some "__init__"), "__init__", "Parter.__init__", defArgs s_Parter_init, defBody s_Parter_init, defScope s_Parter_init, [], []⟩
def d_Parter_sign : He.DefD := ⟨("Parter", some "sign"), "sign", "Parter.sign", defArgs s_Parter_sign, defBody s_Parter_sign, defScope s_Parter_sign, [], []⟩
def d_Parter_see : He.DefD := ⟨("Parter", some "see"), "see", "Parter.see", defArgs s_Parter_see, defBody s_Parter_see, defScope s_Parter_see, [], []⟩
def d_margin : He.DefD := ⟨("margin", none), "margin", "margin", defArgs s_margin, defBody s_margin, defScope s_margin, [], []⟩
def d_side_bound : He.DefD := ⟨("side_bound", none), "side_bound", "side_bound", defArgs s_side_bound, defBody s_side_bound, defScope s_side_bound, [], []⟩
def d_Winnow_init : He.DefD := ⟨("Winnow", some "__init__"), "__init__", "Winnow.__init__", defArgs s_Winnow_init, defBody s_Winnow_init, defScope s_Winnow_init, [], []⟩
def d_Winnow_guess : He.DefD := ⟨("Winnow", some "guess"), "guess", "Winnow.guess", defArgs s_Winnow_guess, defBody s_Winnow_guess, defScope s_Winnow_guess, [], []⟩
def d_Winnow_see : He.DefD := ⟨("Winnow", some "see"), "see", "Winnow.see", defArgs s_Winnow_see, defBody s_Winnow_see, defScope s_Winnow_see, [], []⟩
def d_logarithm : He.DefD := ⟨("logarithm", none), "logarithm", "logarithm", defArgs s_logarithm, defBody s_logarithm, defScope s_logarithm, [], []⟩
def d_most_winnow : He.DefD := ⟨("most_winnow", none), "most_winnow", "most_winnow", defArgs s_most_winnow, defBody s_most_winnow, defScope s_most_winnow, [], []⟩
def d_law_dice : He.DefD := ⟨("_law_dice", none), "_law_dice", "_law_dice", defArgs s_law_dice, defBody s_law_dice, defScope s_law_dice, [], []⟩
def d_law_roll : He.DefD := ⟨("_law_roll", none), "_law_roll", "_law_roll", defArgs s_law_roll, defBody s_law_roll, defScope s_law_roll, [], []⟩
def d_law_rounds : He.DefD := ⟨("_law_rounds", none), "_law_rounds", "_law_rounds", defArgs s_law_rounds, defBody s_law_rounds, defScope s_law_rounds, [], []⟩
def d_law_answers : He.DefD := ⟨("_law_answers", none), "_law_answers", "_law_answers", defArgs s_law_answers, defBody s_law_answers, defScope s_law_answers, [], []⟩
def d_law : He.DefD := ⟨("law", none), "law", "law", defArgs s_law, defBody s_law, defScope s_law, [], []⟩
def fn : List He.DefD := [d_Vote_init, d_Vote_whole_weights, d_Vote_guess, d_Vote_see, d_power, d_vote_bound, d_Mix_init, d_Mix_shares, d_Mix_see, d_common, d_small, d_added, d_in_bounds, d_And_init, d_And_has, d_And_widened, d_And_covers, d_Learner_init, d_Learner_see, d_most_mistakes, d_check_rules, d_kept, d_Halving_init, d_Halving_guess, d_Halving_see, d_most_halvings, d_inner, d_check_signed, d_Parter_init, d_Parter_sign, d_Parter_see, d_margin, d_side_bound, d_Winnow_init, d_Winnow_guess, d_Winnow_see, d_logarithm, d_most_winnow, d_law_dice, d_law_roll, d_law_rounds, d_law_answers, d_law]
def fa : List He.Fa := [
  .glo "power", .glo "vote_bound", .glo "common", .glo "small", .glo "added", .glo "in_bounds", .glo "most_mistakes", .glo "check_rules",
  .glo "kept", .glo "most_halvings", .glo "inner", .glo "check_signed", .glo "margin", .glo "side_bound", .glo "logarithm", .glo "most_winnow",
  .glo "_law_dice", .glo "_law_roll", .glo "_law_rounds", .glo "_law_answers", .glo "law", .glo "Vote", .cls "Vote", .mkr "Vote",
  .noat "Vote" "wrong", .noat "Vote" "mistakes", .meth "Vote" "whole_weights", .meth "Vote" "guess", .meth "Vote" "see", .glo "Mix", .cls "Mix", .mkr "Mix",
  .noat "Mix" "weights", .noat "Mix" "losses", .noat "Mix" "loss", .noat "Mix" "rest", .meth "Mix" "shares", .meth "Mix" "see", .glo "And", .cls "And",
  .mkr "And", .noat "And" "many", .noat "And" "bits", .meth "And" "has", .meth "And" "widened", .meth "And" "covers", .glo "Learner", .cls "Learner",
  .mkr "Learner", .noat "Learner" "rule", .noat "Learner" "mistakes", .meth "Learner" "see", .glo "Halving", .cls "Halving", .mkr "Halving", .noat "Halving" "rules",
  .noat "Halving" "mistakes", .meth "Halving" "guess", .meth "Halving" "see", .glo "Parter", .cls "Parter", .mkr "Parter", .noat "Parter" "weights", .noat "Parter" "mistakes",
  .meth "Parter" "sign", .meth "Parter" "see", .glo "Winnow", .cls "Winnow", .mkr "Winnow", .noat "Winnow" "many", .noat "Winnow" "weights", .noat "Winnow" "lacks",
  .noat "Winnow" "spares", .meth "Winnow" "guess", .meth "Winnow" "see", .free "max", .free "min", .free "tuple", .free "sum", .free "zip",
  .free "len", .free "int", .free "range", .free "any", .free "all", .free "dict", .free "enumerate", .free "sorted",
  .free "abs", .free "ValueError"]
def tf : List He.Defn := [("Vote", some "guess"), ("Mix", some "see"), ("And", some "has"), ("And", some "covers"), ("check_rules", none), ("inner", none), ("check_signed", none), ("Winnow", some "guess"), ("Winnow", some "see")]
/-- what a proof leans on -/
structure Fx (P : Program) (w : World) (K : PySem.W.Frag) (mg : Str → Option Value) (base : Heap) : Prop where
  fa_ : ∀ f ∈ fa, f.ok K = true
  fn_ : ∀ d ∈ fn, ∃ fd, FunD K d.name d.qual d.params d.body d.scope (d.dvs K) (d.kws K) (He.fAd K d.at_) fd
  ns : ∃ h : Heap, K.In h ∧ h.Ns mainGlobals mg
  tb : ∀ p ∈ tf, LamX.TabB base mg (He.cT K p).1 (He.cT K p).2
/-- the tables -/
def Tb (K : PySem.W.Frag) : List Addr := (tf.map (He.cT K)).map (·.2)
section
variable {P : Program} {w : World} {K : PySem.W.Frag} {mg : Str → Option Value} {base : Heap}
theorem Fx.glo_power (F : Fx P w K mg base) : mg "power" = some (.ref (He.ga K "power")) := let ⟨_, X, G⟩ := F.ns; He.glo_ok X G (F.fa_ _ (List.mem_of_getElem? (i := 0) rfl))
theorem Fx.glo_vote_bound (F : Fx P w K mg base) : mg "vote_bound" = some (.ref (He.ga K "vote_bound")) := let ⟨_, X, G⟩ := F.ns; He.glo_ok X G (F.fa_ _ (List.mem_of_getElem? (i := 1) rfl))
theorem Fx.glo_common (F : Fx P w K mg base) : mg "common" = some (.ref (He.ga K "common")) := let ⟨_, X, G⟩ := F.ns; He.glo_ok X G (F.fa_ _ (List.mem_of_getElem? (i := 2) rfl))
theorem Fx.glo_small (F : Fx P w K mg base) : mg "small" = some (.ref (He.ga K "small")) := let ⟨_, X, G⟩ := F.ns; He.glo_ok X G (F.fa_ _ (List.mem_of_getElem? (i := 3) rfl))
theorem Fx.glo_added (F : Fx P w K mg base) : mg "added" = some (.ref (He.ga K "added")) := let ⟨_, X, G⟩ := F.ns; He.glo_ok X G (F.fa_ _ (List.mem_of_getElem? (i := 4) rfl))
theorem Fx.glo_in_bounds (F : Fx P w K mg base) : mg "in_bounds" = some (.ref (He.ga K "in_bounds")) := let ⟨_, X, G⟩ := F.ns; He.glo_ok X G (F.fa_ _ (List.mem_of_getElem? (i := 5) rfl))
theorem Fx.glo_most_mistakes (F : Fx P w K mg base) : mg "most_mistakes" = some (.ref (He.ga K "most_mistakes")) := let ⟨_, X, G⟩ := F.ns; He.glo_ok X G (F.fa_ _ (List.mem_of_getElem? (i := 6) rfl))
theorem Fx.glo_check_rules (F : Fx P w K mg base) : mg "check_rules" = some (.ref (He.ga K "check_rules")) := let ⟨_, X, G⟩ := F.ns; He.glo_ok X G (F.fa_ _ (List.mem_of_getElem? (i := 7) rfl))
theorem Fx.glo_kept (F : Fx P w K mg base) : mg "kept" = some (.ref (He.ga K "kept")) := let ⟨_, X, G⟩ := F.ns; He.glo_ok X G (F.fa_ _ (List.mem_of_getElem? (i := 8) rfl))
theorem Fx.glo_most_halvings (F : Fx P w K mg base) : mg "most_halvings" = some (.ref (He.ga K "most_halvings")) := let ⟨_, X, G⟩ := F.ns; He.glo_ok X G (F.fa_ _ (List.mem_of_getElem? (i := 9) rfl))
theorem Fx.glo_inner (F : Fx P w K mg base) : mg "inner" = some (.ref (He.ga K "inner")) := let ⟨_, X, G⟩ := F.ns; He.glo_ok X G (F.fa_ _ (List.mem_of_getElem? (i := 10) rfl))
theorem Fx.glo_check_signed (F : Fx P w K mg base) : mg "check_signed" = some (.ref (He.ga K "check_signed")) := let ⟨_, X, G⟩ := F.ns; He.glo_ok X G (F.fa_ _ (List.mem_of_getElem? (i := 11) rfl))
theorem Fx.glo_margin (F : Fx P w K mg base) : mg "margin" = some (.ref (He.ga K "margin")) := let ⟨_, X, G⟩ := F.ns; He.glo_ok X G (F.fa_ _ (List.mem_of_getElem? (i := 12) rfl))
theorem Fx.glo_side_bound (F : Fx P w K mg base) : mg "side_bound" = some (.ref (He.ga K "side_bound")) := let ⟨_, X, G⟩ := F.ns; He.glo_ok X G (F.fa_ _ (List.mem_of_getElem? (i := 13) rfl))
theorem Fx.glo_logarithm (F : Fx P w K mg base) : mg "logarithm" = some (.ref (He.ga K "logarithm")) := let ⟨_, X, G⟩ := F.ns; He.glo_ok X G (F.fa_ _ (List.mem_of_getElem? (i := 14) rfl))
theorem Fx.glo_most_winnow (F : Fx P w K mg base) : mg "most_winnow" = some (.ref (He.ga K "most_winnow")) := let ⟨_, X, G⟩ := F.ns; He.glo_ok X G (F.fa_ _ (List.mem_of_getElem? (i := 15) rfl))
theorem Fx.glo_law_dice (F : Fx P w K mg base) : mg "_law_dice" = some (.ref (He.ga K "_law_dice")) := let ⟨_, X, G⟩ := F.ns; He.glo_ok X G (F.fa_ _ (List.mem_of_getElem? (i := 16) rfl))
theorem Fx.glo_law_roll (F : Fx P w K mg base) : mg "_law_roll" = some (.ref (He.ga K "_law_roll")) := let ⟨_, X, G⟩ := F.ns; He.glo_ok X G (F.fa_ _ (List.mem_of_getElem? (i := 17) rfl))
theorem Fx.glo_law_rounds (F : Fx P w K mg base) : mg "_law_rounds" = some (.ref (He.ga K "_law_rounds")) := let ⟨_, X, G⟩ := F.ns; He.glo_ok X G (F.fa_ _ (List.mem_of_getElem? (i := 18) rfl))
theorem Fx.glo_law_answers (F : Fx P w K mg base) : mg "_law_answers" = some (.ref (He.ga K "_law_answers")) := let ⟨_, X, G⟩ := F.ns; He.glo_ok X G (F.fa_ _ (List.mem_of_getElem? (i := 19) rfl))
theorem Fx.glo_law (F : Fx P w K mg base) : mg "law" = some (.ref (He.ga K "law")) := let ⟨_, X, G⟩ := F.ns; He.glo_ok X G (F.fa_ _ (List.mem_of_getElem? (i := 20) rfl))
theorem Fx.glo_Vote (F : Fx P w K mg base) : mg "Vote" = some (.ref (He.ga K "Vote")) := let ⟨_, X, G⟩ := F.ns; He.glo_ok X G (F.fa_ _ (List.mem_of_getElem? (i := 21) rfl))
theorem Fx.cls_Vote (F : Fx P w K mg base) : Cls K (He.ga K "Vote") := He.cls_ok (F.fa_ _ (List.mem_of_getElem? (i := 22) rfl))
theorem Fx.mkr_Vote (F : Fx P w K mg base) : Mk K (He.ga K "Vote") (He.ma K (He.ga K "Vote") "__init__") := He.mkr_ok (F.fa_ _ (List.mem_of_getElem? (i := 23) rfl))
theorem Fx.noat_Vote_wrong (F : Fx P w K mg base) : NoAttr K (He.ga K "Vote") "wrong" := He.noat_ok (F.fa_ _ (List.mem_of_getElem? (i := 24) rfl))
theorem Fx.noat_Vote_mistakes (F : Fx P w K mg base) : NoAttr K (He.ga K "Vote") "mistakes" := He.noat_ok (F.fa_ _ (List.mem_of_getElem? (i := 25) rfl))
theorem Fx.meth_Vote_whole_weights (F : Fx P w K mg base) : Meth K (He.ga K "Vote") "whole_weights" (He.ma K (He.ga K "Vote") "whole_weights") := He.meth_ok (F.fa_ _ (List.mem_of_getElem? (i := 26) rfl))
theorem Fx.meth_Vote_guess (F : Fx P w K mg base) : Meth K (He.ga K "Vote") "guess" (He.ma K (He.ga K "Vote") "guess") := He.meth_ok (F.fa_ _ (List.mem_of_getElem? (i := 27) rfl))
theorem Fx.meth_Vote_see (F : Fx P w K mg base) : Meth K (He.ga K "Vote") "see" (He.ma K (He.ga K "Vote") "see") := He.meth_ok (F.fa_ _ (List.mem_of_getElem? (i := 28) rfl))
theorem Fx.glo_Mix (F : Fx P w K mg base) : mg "Mix" = some (.ref (He.ga K "Mix")) := let ⟨_, X, G⟩ := F.ns; He.glo_ok X G (F.fa_ _ (List.mem_of_getElem? (i := 29) rfl))
theorem Fx.cls_Mix (F : Fx P w K mg base) : Cls K (He.ga K "Mix") := He.cls_ok (F.fa_ _ (List.mem_of_getElem? (i := 30) rfl))
theorem Fx.mkr_Mix (F : Fx P w K mg base) : Mk K (He.ga K "Mix") (He.ma K (He.ga K "Mix") "__init__") := He.mkr_ok (F.fa_ _ (List.mem_of_getElem? (i := 31) rfl))
theorem Fx.noat_Mix_weights (F : Fx P w K mg base) : NoAttr K (He.ga K "Mix") "weights" := He.noat_ok (F.fa_ _ (List.mem_of_getElem? (i := 32) rfl))
theorem Fx.noat_Mix_losses (F : Fx P w K mg base) : NoAttr K (He.ga K "Mix") "losses" := He.noat_ok (F.fa_ _ (List.mem_of_getElem? (i := 33) rfl))
theorem Fx.noat_Mix_loss (F : Fx P w K mg base) : NoAttr K (He.ga K "Mix") "loss" := He.noat_ok (F.fa_ _ (List.mem_of_getElem? (i := 34) rfl))
theorem Fx.noat_Mix_rest (F : Fx P w K mg base) : NoAttr K (He.ga K "Mix") "rest" := He.noat_ok (F.fa_ _ (List.mem_of_getElem? (i := 35) rfl))
theorem Fx.meth_Mix_shares (F : Fx P w K mg base) : Meth K (He.ga K "Mix") "shares" (He.ma K (He.ga K "Mix") "shares") := He.meth_ok (F.fa_ _ (List.mem_of_getElem? (i := 36) rfl))
theorem Fx.meth_Mix_see (F : Fx P w K mg base) : Meth K (He.ga K "Mix") "see" (He.ma K (He.ga K "Mix") "see") := He.meth_ok (F.fa_ _ (List.mem_of_getElem? (i := 37) rfl))
theorem Fx.glo_And (F : Fx P w K mg base) : mg "And" = some (.ref (He.ga K "And")) := let ⟨_, X, G⟩ := F.ns; He.glo_ok X G (F.fa_ _ (List.mem_of_getElem? (i := 38) rfl))
theorem Fx.cls_And (F : Fx P w K mg base) : Cls K (He.ga K "And") := He.cls_ok (F.fa_ _ (List.mem_of_getElem? (i := 39) rfl))
theorem Fx.mkr_And (F : Fx P w K mg base) : Mk K (He.ga K "And") (He.ma K (He.ga K "And") "__init__") := He.mkr_ok (F.fa_ _ (List.mem_of_getElem? (i := 40) rfl))
theorem Fx.noat_And_many (F : Fx P w K mg base) : NoAttr K (He.ga K "And") "many" := He.noat_ok (F.fa_ _ (List.mem_of_getElem? (i := 41) rfl))
theorem Fx.noat_And_bits (F : Fx P w K mg base) : NoAttr K (He.ga K "And") "bits" := He.noat_ok (F.fa_ _ (List.mem_of_getElem? (i := 42) rfl))
theorem Fx.meth_And_has (F : Fx P w K mg base) : Meth K (He.ga K "And") "has" (He.ma K (He.ga K "And") "has") := He.meth_ok (F.fa_ _ (List.mem_of_getElem? (i := 43) rfl))
theorem Fx.meth_And_widened (F : Fx P w K mg base) : Meth K (He.ga K "And") "widened" (He.ma K (He.ga K "And") "widened") := He.meth_ok (F.fa_ _ (List.mem_of_getElem? (i := 44) rfl))
theorem Fx.meth_And_covers (F : Fx P w K mg base) : Meth K (He.ga K "And") "covers" (He.ma K (He.ga K "And") "covers") := He.meth_ok (F.fa_ _ (List.mem_of_getElem? (i := 45) rfl))
theorem Fx.glo_Learner (F : Fx P w K mg base) : mg "Learner" = some (.ref (He.ga K "Learner")) := let ⟨_, X, G⟩ := F.ns; He.glo_ok X G (F.fa_ _ (List.mem_of_getElem? (i := 46) rfl))
theorem Fx.cls_Learner (F : Fx P w K mg base) : Cls K (He.ga K "Learner") := He.cls_ok (F.fa_ _ (List.mem_of_getElem? (i := 47) rfl))
theorem Fx.mkr_Learner (F : Fx P w K mg base) : Mk K (He.ga K "Learner") (He.ma K (He.ga K "Learner") "__init__") := He.mkr_ok (F.fa_ _ (List.mem_of_getElem? (i := 48) rfl))
theorem Fx.noat_Learner_rule (F : Fx P w K mg base) : NoAttr K (He.ga K "Learner") "rule" := He.noat_ok (F.fa_ _ (List.mem_of_getElem? (i := 49) rfl))
theorem Fx.noat_Learner_mistakes (F : Fx P w K mg base) : NoAttr K (He.ga K "Learner") "mistakes" := He.noat_ok (F.fa_ _ (List.mem_of_getElem? (i := 50) rfl))
theorem Fx.meth_Learner_see (F : Fx P w K mg base) : Meth K (He.ga K "Learner") "see" (He.ma K (He.ga K "Learner") "see") := He.meth_ok (F.fa_ _ (List.mem_of_getElem? (i := 51) rfl))
theorem Fx.glo_Halving (F : Fx P w K mg base) : mg "Halving" = some (.ref (He.ga K "Halving")) := let ⟨_, X, G⟩ := F.ns; He.glo_ok X G (F.fa_ _ (List.mem_of_getElem? (i := 52) rfl))
theorem Fx.cls_Halving (F : Fx P w K mg base) : Cls K (He.ga K "Halving") := He.cls_ok (F.fa_ _ (List.mem_of_getElem? (i := 53) rfl))
theorem Fx.mkr_Halving (F : Fx P w K mg base) : Mk K (He.ga K "Halving") (He.ma K (He.ga K "Halving") "__init__") := He.mkr_ok (F.fa_ _ (List.mem_of_getElem? (i := 54) rfl))
theorem Fx.noat_Halving_rules (F : Fx P w K mg base) : NoAttr K (He.ga K "Halving") "rules" := He.noat_ok (F.fa_ _ (List.mem_of_getElem? (i := 55) rfl))
theorem Fx.noat_Halving_mistakes (F : Fx P w K mg base) : NoAttr K (He.ga K "Halving") "mistakes" := He.noat_ok (F.fa_ _ (List.mem_of_getElem? (i := 56) rfl))
theorem Fx.meth_Halving_guess (F : Fx P w K mg base) : Meth K (He.ga K "Halving") "guess" (He.ma K (He.ga K "Halving") "guess") := He.meth_ok (F.fa_ _ (List.mem_of_getElem? (i := 57) rfl))
theorem Fx.meth_Halving_see (F : Fx P w K mg base) : Meth K (He.ga K "Halving") "see" (He.ma K (He.ga K "Halving") "see") := He.meth_ok (F.fa_ _ (List.mem_of_getElem? (i := 58) rfl))
theorem Fx.glo_Parter (F : Fx P w K mg base) : mg "Parter" = some (.ref (He.ga K "Parter")) := let ⟨_, X, G⟩ := F.ns; He.glo_ok X G (F.fa_ _ (List.mem_of_getElem? (i := 59) rfl))
theorem Fx.cls_Parter (F : Fx P w K mg base) : Cls K (He.ga K "Parter") := He.cls_ok (F.fa_ _ (List.mem_of_getElem? (i := 60) rfl))
theorem Fx.mkr_Parter (F : Fx P w K mg base) : Mk K (He.ga K "Parter") (He.ma K (He.ga K "Parter") "__init__") := He.mkr_ok (F.fa_ _ (List.mem_of_getElem? (i := 61) rfl))
theorem Fx.noat_Parter_weights (F : Fx P w K mg base) : NoAttr K (He.ga K "Parter") "weights" := He.noat_ok (F.fa_ _ (List.mem_of_getElem? (i := 62) rfl))
theorem Fx.noat_Parter_mistakes (F : Fx P w K mg base) : NoAttr K (He.ga K "Parter") "mistakes" := He.noat_ok (F.fa_ _ (List.mem_of_getElem? (i := 63) rfl))
theorem Fx.meth_Parter_sign (F : Fx P w K mg base) : Meth K (He.ga K "Parter") "sign" (He.ma K (He.ga K "Parter") "sign") := He.meth_ok (F.fa_ _ (List.mem_of_getElem? (i := 64) rfl))
theorem Fx.meth_Parter_see (F : Fx P w K mg base) : Meth K (He.ga K "Parter") "see" (He.ma K (He.ga K "Parter") "see") := He.meth_ok (F.fa_ _ (List.mem_of_getElem? (i := 65) rfl))
theorem Fx.glo_Winnow (F : Fx P w K mg base) : mg "Winnow" = some (.ref (He.ga K "Winnow")) := let ⟨_, X, G⟩ := F.ns; He.glo_ok X G (F.fa_ _ (List.mem_of_getElem? (i := 66) rfl))
theorem Fx.cls_Winnow (F : Fx P w K mg base) : Cls K (He.ga K "Winnow") := He.cls_ok (F.fa_ _ (List.mem_of_getElem? (i := 67) rfl))
theorem Fx.mkr_Winnow (F : Fx P w K mg base) : Mk K (He.ga K "Winnow") (He.ma K (He.ga K "Winnow") "__init__") := He.mkr_ok (F.fa_ _ (List.mem_of_getElem? (i := 68) rfl))
theorem Fx.noat_Winnow_many (F : Fx P w K mg base) : NoAttr K (He.ga K "Winnow") "many" := He.noat_ok (F.fa_ _ (List.mem_of_getElem? (i := 69) rfl))
theorem Fx.noat_Winnow_weights (F : Fx P w K mg base) : NoAttr K (He.ga K "Winnow") "weights" := He.noat_ok (F.fa_ _ (List.mem_of_getElem? (i := 70) rfl))
theorem Fx.noat_Winnow_lacks (F : Fx P w K mg base) : NoAttr K (He.ga K "Winnow") "lacks" := He.noat_ok (F.fa_ _ (List.mem_of_getElem? (i := 71) rfl))
theorem Fx.noat_Winnow_spares (F : Fx P w K mg base) : NoAttr K (He.ga K "Winnow") "spares" := He.noat_ok (F.fa_ _ (List.mem_of_getElem? (i := 72) rfl))
theorem Fx.meth_Winnow_guess (F : Fx P w K mg base) : Meth K (He.ga K "Winnow") "guess" (He.ma K (He.ga K "Winnow") "guess") := He.meth_ok (F.fa_ _ (List.mem_of_getElem? (i := 73) rfl))
theorem Fx.meth_Winnow_see (F : Fx P w K mg base) : Meth K (He.ga K "Winnow") "see" (He.ma K (He.ga K "Winnow") "see") := He.meth_ok (F.fa_ _ (List.mem_of_getElem? (i := 74) rfl))
theorem Fx.free_max (F : Fx P w K mg base) : mg "max" = none := let ⟨_, X, G⟩ := F.ns; He.free_ok X G (F.fa_ _ (List.mem_of_getElem? (i := 75) rfl))
theorem Fx.free_min (F : Fx P w K mg base) : mg "min" = none := let ⟨_, X, G⟩ := F.ns; He.free_ok X G (F.fa_ _ (List.mem_of_getElem? (i := 76) rfl))
theorem Fx.free_tuple (F : Fx P w K mg base) : mg "tuple" = none := let ⟨_, X, G⟩ := F.ns; He.free_ok X G (F.fa_ _ (List.mem_of_getElem? (i := 77) rfl))
theorem Fx.free_sum (F : Fx P w K mg base) : mg "sum" = none := let ⟨_, X, G⟩ := F.ns; He.free_ok X G (F.fa_ _ (List.mem_of_getElem? (i := 78) rfl))
theorem Fx.free_zip (F : Fx P w K mg base) : mg "zip" = none := let ⟨_, X, G⟩ := F.ns; He.free_ok X G (F.fa_ _ (List.mem_of_getElem? (i := 79) rfl))
theorem Fx.free_len (F : Fx P w K mg base) : mg "len" = none := let ⟨_, X, G⟩ := F.ns; He.free_ok X G (F.fa_ _ (List.mem_of_getElem? (i := 80) rfl))
theorem Fx.free_int (F : Fx P w K mg base) : mg "int" = none := let ⟨_, X, G⟩ := F.ns; He.free_ok X G (F.fa_ _ (List.mem_of_getElem? (i := 81) rfl))
theorem Fx.free_range (F : Fx P w K mg base) : mg "range" = none := let ⟨_, X, G⟩ := F.ns; He.free_ok X G (F.fa_ _ (List.mem_of_getElem? (i := 82) rfl))
theorem Fx.free_any (F : Fx P w K mg base) : mg "any" = none := let ⟨_, X, G⟩ := F.ns; He.free_ok X G (F.fa_ _ (List.mem_of_getElem? (i := 83) rfl))
theorem Fx.free_all (F : Fx P w K mg base) : mg "all" = none := let ⟨_, X, G⟩ := F.ns; He.free_ok X G (F.fa_ _ (List.mem_of_getElem? (i := 84) rfl))
theorem Fx.free_dict (F : Fx P w K mg base) : mg "dict" = none := let ⟨_, X, G⟩ := F.ns; He.free_ok X G (F.fa_ _ (List.mem_of_getElem? (i := 85) rfl))
theorem Fx.free_enumerate (F : Fx P w K mg base) : mg "enumerate" = none := let ⟨_, X, G⟩ := F.ns; He.free_ok X G (F.fa_ _ (List.mem_of_getElem? (i := 86) rfl))
theorem Fx.free_sorted (F : Fx P w K mg base) : mg "sorted" = none := let ⟨_, X, G⟩ := F.ns; He.free_ok X G (F.fa_ _ (List.mem_of_getElem? (i := 87) rfl))
theorem Fx.free_abs (F : Fx P w K mg base) : mg "abs" = none := let ⟨_, X, G⟩ := F.ns; He.free_ok X G (F.fa_ _ (List.mem_of_getElem? (i := 88) rfl))
theorem Fx.free_ValueError (F : Fx P w K mg base) : mg "ValueError" = none := let ⟨_, X, G⟩ := F.ns; He.free_ok X G (F.fa_ _ (List.mem_of_getElem? (i := 89) rfl))
theorem Fx.fn_Vote_init (F : Fx P w K mg base) : ∃ fd, FunC K "__init__" "Vote.__init__" s_Vote_init (He.fAd K ("Vote", some "__init__")) fd (.ref (He.codeOf K ("Vote", some "__init__"))) ∧ Binds K fd ["self", "many"] [] := by
  obtain ⟨fd, h⟩ := F.fn_ _ (List.mem_of_getElem? (i := 0) rfl)
  exact ⟨fd, funC_of (p := ("Vote", some "__init__")) h, FunD.bindsN h fun _ _ _ _ _ _ us hl => match us, hl with | [_, _], _ => rfl⟩
theorem Fx.fn_Vote_whole_weights (F : Fx P w K mg base) : ∃ fd, FunC K "whole_weights" "Vote.whole_weights" s_Vote_whole_weights (He.fAd K ("Vote", some "whole_weights")) fd (.ref (He.codeOf K ("Vote", some "whole_weights"))) ∧ Binds K fd ["self"] [] := by
  obtain ⟨fd, h⟩ := F.fn_ _ (List.mem_of_getElem? (i := 1) rfl)
  exact ⟨fd, funC_of (p := ("Vote", some "whole_weights")) h, FunD.bindsN h fun _ _ _ _ _ _ us hl => match us, hl with | [_], _ => rfl⟩
theorem Fx.fn_Vote_guess (F : Fx P w K mg base) : ∃ fd, FunC K "guess" "Vote.guess" s_Vote_guess (He.fAd K ("Vote", some "guess")) fd (.ref (He.codeOf K ("Vote", some "guess"))) ∧ Binds K fd ["self", "answers"] [] := by
  obtain ⟨fd, h⟩ := F.fn_ _ (List.mem_of_getElem? (i := 2) rfl)
  exact ⟨fd, funC_of (p := ("Vote", some "guess")) h, FunD.bindsN h fun _ _ _ _ _ _ us hl => match us, hl with | [_, _], _ => rfl⟩
theorem Fx.fn_Vote_see (F : Fx P w K mg base) : ∃ fd, FunC K "see" "Vote.see" s_Vote_see (He.fAd K ("Vote", some "see")) fd (.ref (He.codeOf K ("Vote", some "see"))) ∧ Binds K fd ["self", "answers", "right"] [] := by
  obtain ⟨fd, h⟩ := F.fn_ _ (List.mem_of_getElem? (i := 3) rfl)
  exact ⟨fd, funC_of (p := ("Vote", some "see")) h, FunD.bindsN h fun _ _ _ _ _ _ us hl => match us, hl with | [_, _, _], _ => rfl⟩
theorem Fx.fn_power (F : Fx P w K mg base) : ∃ fd, FunC K "power" "power" s_power (He.fAd K ("power", none)) fd (.ref (He.codeOf K ("power", none))) ∧ Binds K fd ["base", "count"] [] := by
  obtain ⟨fd, h⟩ := F.fn_ _ (List.mem_of_getElem? (i := 4) rfl)
  exact ⟨fd, funC_of (p := ("power", none)) h, FunD.bindsN h fun _ _ _ _ _ _ us hl => match us, hl with | [_, _], _ => rfl⟩
theorem Fx.fn_vote_bound (F : Fx P w K mg base) : ∃ fd, FunC K "vote_bound" "vote_bound" s_vote_bound (He.fAd K ("vote_bound", none)) fd (.ref (He.codeOf K ("vote_bound", none))) ∧ Binds K fd ["mistakes", "best", "many"] [] := by
  obtain ⟨fd, h⟩ := F.fn_ _ (List.mem_of_getElem? (i := 5) rfl)
  exact ⟨fd, funC_of (p := ("vote_bound", none)) h, FunD.bindsN h fun _ _ _ _ _ _ us hl => match us, hl with | [_, _, _], _ => rfl⟩
theorem Fx.fn_Mix_init (F : Fx P w K mg base) : ∃ fd, FunC K "__init__" "Mix.__init__" s_Mix_init (He.fAd K ("Mix", some "__init__")) fd (.ref (He.codeOf K ("Mix", some "__init__"))) ∧ Binds K fd ["self", "many"] [] := by
  obtain ⟨fd, h⟩ := F.fn_ _ (List.mem_of_getElem? (i := 6) rfl)
  exact ⟨fd, funC_of (p := ("Mix", some "__init__")) h, FunD.bindsN h fun _ _ _ _ _ _ us hl => match us, hl with | [_, _], _ => rfl⟩
theorem Fx.fn_Mix_shares (F : Fx P w K mg base) : ∃ fd, FunC K "shares" "Mix.shares" s_Mix_shares (He.fAd K ("Mix", some "shares")) fd (.ref (He.codeOf K ("Mix", some "shares"))) ∧ Binds K fd ["self"] [] := by
  obtain ⟨fd, h⟩ := F.fn_ _ (List.mem_of_getElem? (i := 7) rfl)
  exact ⟨fd, funC_of (p := ("Mix", some "shares")) h, FunD.bindsN h fun _ _ _ _ _ _ us hl => match us, hl with | [_], _ => rfl⟩
theorem Fx.fn_Mix_see (F : Fx P w K mg base) : ∃ fd, FunC K "see" "Mix.see" s_Mix_see (He.fAd K ("Mix", some "see")) fd (.ref (He.codeOf K ("Mix", some "see"))) ∧ Binds K fd ["self", "losses"] [] := by
  obtain ⟨fd, h⟩ := F.fn_ _ (List.mem_of_getElem? (i := 8) rfl)
  exact ⟨fd, funC_of (p := ("Mix", some "see")) h, FunD.bindsN h fun _ _ _ _ _ _ us hl => match us, hl with | [_, _], _ => rfl⟩
theorem Fx.fn_common (F : Fx P w K mg base) : ∃ fd, FunC K "common" "common" s_common (He.fAd K ("common", none)) fd (.ref (He.codeOf K ("common", none))) ∧ Binds K fd ["one", "other"] [] := by
  obtain ⟨fd, h⟩ := F.fn_ _ (List.mem_of_getElem? (i := 9) rfl)
  exact ⟨fd, funC_of (p := ("common", none)) h, FunD.bindsN h fun _ _ _ _ _ _ us hl => match us, hl with | [_, _], _ => rfl⟩
theorem Fx.fn_small (F : Fx P w K mg base) : ∃ fd, FunC K "small" "small" s_small (He.fAd K ("small", none)) fd (.ref (He.codeOf K ("small", none))) ∧ Binds K fd ["top", "low"] [] := by
  obtain ⟨fd, h⟩ := F.fn_ _ (List.mem_of_getElem? (i := 10) rfl)
  exact ⟨fd, funC_of (p := ("small", none)) h, FunD.bindsN h fun _ _ _ _ _ _ us hl => match us, hl with | [_, _], _ => rfl⟩
theorem Fx.fn_added (F : Fx P w K mg base) : ∃ fd, FunC K "added" "added" s_added (He.fAd K ("added", none)) fd (.ref (He.codeOf K ("added", none))) ∧ Binds K fd ["one", "other"] [] := by
  obtain ⟨fd, h⟩ := F.fn_ _ (List.mem_of_getElem? (i := 11) rfl)
  exact ⟨fd, funC_of (p := ("added", none)) h, FunD.bindsN h fun _ _ _ _ _ _ us hl => match us, hl with | [_, _], _ => rfl⟩
theorem Fx.fn_in_bounds (F : Fx P w K mg base) : ∃ fd, FunC K "in_bounds" "in_bounds" s_in_bounds (He.fAd K ("in_bounds", none)) fd (.ref (He.codeOf K ("in_bounds", none))) ∧ Binds K fd ["mix"] [] := by
  obtain ⟨fd, h⟩ := F.fn_ _ (List.mem_of_getElem? (i := 12) rfl)
  exact ⟨fd, funC_of (p := ("in_bounds", none)) h, FunD.bindsN h fun _ _ _ _ _ _ us hl => match us, hl with | [_], _ => rfl⟩
theorem Fx.fn_And_init (F : Fx P w K mg base) : ∃ fd, FunD K "__init__" "And.__init__" (defArgs s_And_init) (defBody s_And_init) (defScope s_And_init) (d_And_init.dvs K) (d_And_init.kws K) (He.fAd K ("And", some "__init__")) fd ∧ FunC K "__init__" "And.__init__" s_And_init (He.fAd K ("And", some "__init__")) fd (.ref (He.codeOf K ("And", some "__init__"))) := by
  obtain ⟨fd, h⟩ := F.fn_ _ (List.mem_of_getElem? (i := 13) rfl)
  exact ⟨fd, h, funC_of (p := ("And", some "__init__")) h⟩
theorem Fx.fn_And_has (F : Fx P w K mg base) : ∃ fd, FunC K "has" "And.has" s_And_has (He.fAd K ("And", some "has")) fd (.ref (He.codeOf K ("And", some "has"))) ∧ Binds K fd ["self", "point"] [] := by
  obtain ⟨fd, h⟩ := F.fn_ _ (List.mem_of_getElem? (i := 14) rfl)
  exact ⟨fd, funC_of (p := ("And", some "has")) h, FunD.bindsN h fun _ _ _ _ _ _ us hl => match us, hl with | [_, _], _ => rfl⟩
theorem Fx.fn_And_widened (F : Fx P w K mg base) : ∃ fd, FunC K "widened" "And.widened" s_And_widened (He.fAd K ("And", some "widened")) fd (.ref (He.codeOf K ("And", some "widened"))) ∧ Binds K fd ["self", "point"] [] := by
  obtain ⟨fd, h⟩ := F.fn_ _ (List.mem_of_getElem? (i := 15) rfl)
  exact ⟨fd, funC_of (p := ("And", some "widened")) h, FunD.bindsN h fun _ _ _ _ _ _ us hl => match us, hl with | [_, _], _ => rfl⟩
theorem Fx.fn_And_covers (F : Fx P w K mg base) : ∃ fd, FunC K "covers" "And.covers" s_And_covers (He.fAd K ("And", some "covers")) fd (.ref (He.codeOf K ("And", some "covers"))) ∧ Binds K fd ["self", "other"] [] := by
  obtain ⟨fd, h⟩ := F.fn_ _ (List.mem_of_getElem? (i := 16) rfl)
  exact ⟨fd, funC_of (p := ("And", some "covers")) h, FunD.bindsN h fun _ _ _ _ _ _ us hl => match us, hl with | [_, _], _ => rfl⟩
theorem Fx.fn_Learner_init (F : Fx P w K mg base) : ∃ fd, FunC K "__init__" "Learner.__init__" s_Learner_init (He.fAd K ("Learner", some "__init__")) fd (.ref (He.codeOf K ("Learner", some "__init__"))) ∧ Binds K fd ["self", "many"] [] := by
  obtain ⟨fd, h⟩ := F.fn_ _ (List.mem_of_getElem? (i := 17) rfl)
  exact ⟨fd, funC_of (p := ("Learner", some "__init__")) h, FunD.bindsN h fun _ _ _ _ _ _ us hl => match us, hl with | [_, _], _ => rfl⟩
theorem Fx.fn_Learner_see (F : Fx P w K mg base) : ∃ fd, FunC K "see" "Learner.see" s_Learner_see (He.fAd K ("Learner", some "see")) fd (.ref (He.codeOf K ("Learner", some "see"))) ∧ Binds K fd ["self", "point", "take"] [] := by
  obtain ⟨fd, h⟩ := F.fn_ _ (List.mem_of_getElem? (i := 18) rfl)
  exact ⟨fd, funC_of (p := ("Learner", some "see")) h, FunD.bindsN h fun _ _ _ _ _ _ us hl => match us, hl with | [_, _, _], _ => rfl⟩
theorem Fx.fn_most_mistakes (F : Fx P w K mg base) : ∃ fd, FunC K "most_mistakes" "most_mistakes" s_most_mistakes (He.fAd K ("most_mistakes", none)) fd (.ref (He.codeOf K ("most_mistakes", none))) ∧ Binds K fd ["many"] [] := by
  obtain ⟨fd, h⟩ := F.fn_ _ (List.mem_of_getElem? (i := 19) rfl)
  exact ⟨fd, funC_of (p := ("most_mistakes", none)) h, FunD.bindsN h fun _ _ _ _ _ _ us hl => match us, hl with | [_], _ => rfl⟩
theorem Fx.fn_check_rules (F : Fx P w K mg base) : ∃ fd, FunC K "check_rules" "check_rules" s_check_rules (He.fAd K ("check_rules", none)) fd (.ref (He.codeOf K ("check_rules", none))) ∧ Binds K fd ["rules"] [] := by
  obtain ⟨fd, h⟩ := F.fn_ _ (List.mem_of_getElem? (i := 20) rfl)
  exact ⟨fd, funC_of (p := ("check_rules", none)) h, FunD.bindsN h fun _ _ _ _ _ _ us hl => match us, hl with | [_], _ => rfl⟩
theorem Fx.fn_kept (F : Fx P w K mg base) : ∃ fd, FunC K "kept" "kept" s_kept (He.fAd K ("kept", none)) fd (.ref (He.codeOf K ("kept", none))) ∧ Binds K fd ["rules", "question", "answer"] [] := by
  obtain ⟨fd, h⟩ := F.fn_ _ (List.mem_of_getElem? (i := 21) rfl)
  exact ⟨fd, funC_of (p := ("kept", none)) h, FunD.bindsN h fun _ _ _ _ _ _ us hl => match us, hl with | [_, _, _], _ => rfl⟩
theorem Fx.fn_Halving_init (F : Fx P w K mg base) : ∃ fd, FunC K "__init__" "Halving.__init__" s_Halving_init (He.fAd K ("Halving", some "__init__")) fd (.ref (He.codeOf K ("Halving", some "__init__"))) ∧ Binds K fd ["self", "rules"] [] := by
  obtain ⟨fd, h⟩ := F.fn_ _ (List.mem_of_getElem? (i := 22) rfl)
  exact ⟨fd, funC_of (p := ("Halving", some "__init__")) h, FunD.bindsN h fun _ _ _ _ _ _ us hl => match us, hl with | [_, _], _ => rfl⟩
theorem Fx.fn_Halving_guess (F : Fx P w K mg base) : ∃ fd, FunC K "guess" "Halving.guess" s_Halving_guess (He.fAd K ("Halving", some "guess")) fd (.ref (He.codeOf K ("Halving", some "guess"))) ∧ Binds K fd ["self", "question"] [] := by
  obtain ⟨fd, h⟩ := F.fn_ _ (List.mem_of_getElem? (i := 23) rfl)
  exact ⟨fd, funC_of (p := ("Halving", some "guess")) h, FunD.bindsN h fun _ _ _ _ _ _ us hl => match us, hl with | [_, _], _ => rfl⟩
theorem Fx.fn_Halving_see (F : Fx P w K mg base) : ∃ fd, FunC K "see" "Halving.see" s_Halving_see (He.fAd K ("Halving", some "see")) fd (.ref (He.codeOf K ("Halving", some "see"))) ∧ Binds K fd ["self", "question", "answer"] [] := by
  obtain ⟨fd, h⟩ := F.fn_ _ (List.mem_of_getElem? (i := 24) rfl)
  exact ⟨fd, funC_of (p := ("Halving", some "see")) h, FunD.bindsN h fun _ _ _ _ _ _ us hl => match us, hl with | [_, _, _], _ => rfl⟩
theorem Fx.fn_most_halvings (F : Fx P w K mg base) : ∃ fd, FunC K "most_halvings" "most_halvings" s_most_halvings (He.fAd K ("most_halvings", none)) fd (.ref (He.codeOf K ("most_halvings", none))) ∧ Binds K fd ["many"] [] := by
  obtain ⟨fd, h⟩ := F.fn_ _ (List.mem_of_getElem? (i := 25) rfl)
  exact ⟨fd, funC_of (p := ("most_halvings", none)) h, FunD.bindsN h fun _ _ _ _ _ _ us hl => match us, hl with | [_], _ => rfl⟩
theorem Fx.fn_inner (F : Fx P w K mg base) : ∃ fd, FunC K "inner" "inner" s_inner (He.fAd K ("inner", none)) fd (.ref (He.codeOf K ("inner", none))) ∧ Binds K fd ["one", "other"] [] := by
  obtain ⟨fd, h⟩ := F.fn_ _ (List.mem_of_getElem? (i := 26) rfl)
  exact ⟨fd, funC_of (p := ("inner", none)) h, FunD.bindsN h fun _ _ _ _ _ _ us hl => match us, hl with | [_, _], _ => rfl⟩
theorem Fx.fn_check_signed (F : Fx P w K mg base) : ∃ fd, FunC K "check_signed" "check_signed" s_check_signed (He.fAd K ("check_signed", none)) fd (.ref (He.codeOf K ("check_signed", none))) ∧ Binds K fd ["examples"] [] := by
  obtain ⟨fd, h⟩ := F.fn_ _ (List.mem_of_getElem? (i := 27) rfl)
  exact ⟨fd, funC_of (p := ("check_signed", none)) h, FunD.bindsN h fun _ _ _ _ _ _ us hl => match us, hl with | [_], _ => rfl⟩
theorem Fx.fn_Parter_init (F : Fx P w K mg base) : ∃ fd, FunC K "__init__" "Parter.__init__" s_Parter_init (He.fAd K ("Parter", some "__init__")) fd (.ref (He.codeOf K ("Parter", some "__init__"))) ∧ Binds K fd ["self", "many"] [] := by
  obtain ⟨fd, h⟩ := F.fn_ _ (List.mem_of_getElem? (i := 28) rfl)
  exact ⟨fd, funC_of (p := ("Parter", some "__init__")) h, FunD.bindsN h fun _ _ _ _ _ _ us hl => match us, hl with | [_, _], _ => rfl⟩
theorem Fx.fn_Parter_sign (F : Fx P w K mg base) : ∃ fd, FunC K "sign" "Parter.sign" s_Parter_sign (He.fAd K ("Parter", some "sign")) fd (.ref (He.codeOf K ("Parter", some "sign"))) ∧ Binds K fd ["self", "row"] [] := by
  obtain ⟨fd, h⟩ := F.fn_ _ (List.mem_of_getElem? (i := 29) rfl)
  exact ⟨fd, funC_of (p := ("Parter", some "sign")) h, FunD.bindsN h fun _ _ _ _ _ _ us hl => match us, hl with | [_, _], _ => rfl⟩
theorem Fx.fn_Parter_see (F : Fx P w K mg base) : ∃ fd, FunC K "see" "Parter.see" s_Parter_see (He.fAd K ("Parter", some "see")) fd (.ref (He.codeOf K ("Parter", some "see"))) ∧ Binds K fd ["self", "row", "sign"] [] := by
  obtain ⟨fd, h⟩ := F.fn_ _ (List.mem_of_getElem? (i := 30) rfl)
  exact ⟨fd, funC_of (p := ("Parter", some "see")) h, FunD.bindsN h fun _ _ _ _ _ _ us hl => match us, hl with | [_, _, _], _ => rfl⟩
theorem Fx.fn_margin (F : Fx P w K mg base) : ∃ fd, FunC K "margin" "margin" s_margin (He.fAd K ("margin", none)) fd (.ref (He.codeOf K ("margin", none))) ∧ Binds K fd ["examples", "weights"] [] := by
  obtain ⟨fd, h⟩ := F.fn_ _ (List.mem_of_getElem? (i := 31) rfl)
  exact ⟨fd, funC_of (p := ("margin", none)) h, FunD.bindsN h fun _ _ _ _ _ _ us hl => match us, hl with | [_, _], _ => rfl⟩
theorem Fx.fn_side_bound (F : Fx P w K mg base) : ∃ fd, FunC K "side_bound" "side_bound" s_side_bound (He.fAd K ("side_bound", none)) fd (.ref (He.codeOf K ("side_bound", none))) ∧ Binds K fd ["mistakes", "examples", "weights"] [] := by
  obtain ⟨fd, h⟩ := F.fn_ _ (List.mem_of_getElem? (i := 32) rfl)
  exact ⟨fd, funC_of (p := ("side_bound", none)) h, FunD.bindsN h fun _ _ _ _ _ _ us hl => match us, hl with | [_, _, _], _ => rfl⟩
theorem Fx.fn_Winnow_init (F : Fx P w K mg base) : ∃ fd, FunC K "__init__" "Winnow.__init__" s_Winnow_init (He.fAd K ("Winnow", some "__init__")) fd (.ref (He.codeOf K ("Winnow", some "__init__"))) ∧ Binds K fd ["self", "many"] [] := by
  obtain ⟨fd, h⟩ := F.fn_ _ (List.mem_of_getElem? (i := 33) rfl)
  exact ⟨fd, funC_of (p := ("Winnow", some "__init__")) h, FunD.bindsN h fun _ _ _ _ _ _ us hl => match us, hl with | [_, _], _ => rfl⟩
theorem Fx.fn_Winnow_guess (F : Fx P w K mg base) : ∃ fd, FunC K "guess" "Winnow.guess" s_Winnow_guess (He.fAd K ("Winnow", some "guess")) fd (.ref (He.codeOf K ("Winnow", some "guess"))) ∧ Binds K fd ["self", "point"] [] := by
  obtain ⟨fd, h⟩ := F.fn_ _ (List.mem_of_getElem? (i := 34) rfl)
  exact ⟨fd, funC_of (p := ("Winnow", some "guess")) h, FunD.bindsN h fun _ _ _ _ _ _ us hl => match us, hl with | [_, _], _ => rfl⟩
theorem Fx.fn_Winnow_see (F : Fx P w K mg base) : ∃ fd, FunC K "see" "Winnow.see" s_Winnow_see (He.fAd K ("Winnow", some "see")) fd (.ref (He.codeOf K ("Winnow", some "see"))) ∧ Binds K fd ["self", "point", "take"] [] := by
  obtain ⟨fd, h⟩ := F.fn_ _ (List.mem_of_getElem? (i := 35) rfl)
  exact ⟨fd, funC_of (p := ("Winnow", some "see")) h, FunD.bindsN h fun _ _ _ _ _ _ us hl => match us, hl with | [_, _, _], _ => rfl⟩
theorem Fx.fn_logarithm (F : Fx P w K mg base) : ∃ fd, FunC K "logarithm" "logarithm" s_logarithm (He.fAd K ("logarithm", none)) fd (.ref (He.codeOf K ("logarithm", none))) ∧ Binds K fd ["many"] [] := by
  obtain ⟨fd, h⟩ := F.fn_ _ (List.mem_of_getElem? (i := 36) rfl)
  exact ⟨fd, funC_of (p := ("logarithm", none)) h, FunD.bindsN h fun _ _ _ _ _ _ us hl => match us, hl with | [_], _ => rfl⟩
theorem Fx.fn_most_winnow (F : Fx P w K mg base) : ∃ fd, FunC K "most_winnow" "most_winnow" s_most_winnow (He.fAd K ("most_winnow", none)) fd (.ref (He.codeOf K ("most_winnow", none))) ∧ Binds K fd ["many", "few"] [] := by
  obtain ⟨fd, h⟩ := F.fn_ _ (List.mem_of_getElem? (i := 37) rfl)
  exact ⟨fd, funC_of (p := ("most_winnow", none)) h, FunD.bindsN h fun _ _ _ _ _ _ us hl => match us, hl with | [_, _], _ => rfl⟩
theorem Fx.fn_law_dice (F : Fx P w K mg base) : ∃ fd, FunC K "_law_dice" "_law_dice" s_law_dice (He.fAd K ("_law_dice", none)) fd (.ref (He.codeOf K ("_law_dice", none))) ∧ Binds K fd ["cell"] [] := by
  obtain ⟨fd, h⟩ := F.fn_ _ (List.mem_of_getElem? (i := 38) rfl)
  exact ⟨fd, funC_of (p := ("_law_dice", none)) h, FunD.bindsN h fun _ _ _ _ _ _ us hl => match us, hl with | [_], _ => rfl⟩
theorem Fx.fn_law_roll (F : Fx P w K mg base) : ∃ fd, FunC K "_law_roll" "_law_roll" s_law_roll (He.fAd K ("_law_roll", none)) fd (.ref (He.codeOf K ("_law_roll", none))) ∧ Binds K fd ["dice", "many"] [] := by
  obtain ⟨fd, h⟩ := F.fn_ _ (List.mem_of_getElem? (i := 39) rfl)
  exact ⟨fd, funC_of (p := ("_law_roll", none)) h, FunD.bindsN h fun _ _ _ _ _ _ us hl => match us, hl with | [_, _], _ => rfl⟩
theorem Fx.fn_law_rounds (F : Fx P w K mg base) : ∃ fd, FunC K "_law_rounds" "_law_rounds" s_law_rounds (He.fAd K ("_law_rounds", none)) fd (.ref (He.codeOf K ("_law_rounds", none))) ∧ Binds K fd ["script", "most"] [] := by
  obtain ⟨fd, h⟩ := F.fn_ _ (List.mem_of_getElem? (i := 40) rfl)
  exact ⟨fd, funC_of (p := ("_law_rounds", none)) h, FunD.bindsN h fun _ _ _ _ _ _ us hl => match us, hl with | [_, _], _ => rfl⟩
theorem Fx.fn_law_answers (F : Fx P w K mg base) : ∃ fd, FunC K "_law_answers" "_law_answers" s_law_answers (He.fAd K ("_law_answers", none)) fd (.ref (He.codeOf K ("_law_answers", none))) ∧ Binds K fd ["dice", "many", "most"] [] := by
  obtain ⟨fd, h⟩ := F.fn_ _ (List.mem_of_getElem? (i := 41) rfl)
  exact ⟨fd, funC_of (p := ("_law_answers", none)) h, FunD.bindsN h fun _ _ _ _ _ _ us hl => match us, hl with | [_, _, _], _ => rfl⟩
theorem Fx.fn_law (F : Fx P w K mg base) : ∃ fd, FunC K "law" "law" s_law (He.fAd K ("law", none)) fd (.ref (He.codeOf K ("law", none))) ∧ Binds K fd ["script"] [] := by
  obtain ⟨fd, h⟩ := F.fn_ _ (List.mem_of_getElem? (i := 42) rfl)
  exact ⟨fd, funC_of (p := ("law", none)) h, FunD.bindsN h fun _ _ _ _ _ _ us hl => match us, hl with | [_], _ => rfl⟩
theorem Fx.tb_Vote_guess (F : Fx P w K mg base) : LamX.TabB base mg (He.cT K ("Vote", some "guess")).1 (He.cT K ("Vote", some "guess")).2 ∧ (He.cT K ("Vote", some "guess")).2 ∈ Tb K := ⟨F.tb _ (List.mem_of_getElem? (i := 0) rfl), List.mem_map.mpr ⟨_, List.mem_map.mpr ⟨_, List.mem_of_getElem? (i := 0) rfl, rfl⟩, rfl⟩⟩
theorem Fx.tb_Mix_see (F : Fx P w K mg base) : LamX.TabB base mg (He.cT K ("Mix", some "see")).1 (He.cT K ("Mix", some "see")).2 ∧ (He.cT K ("Mix", some "see")).2 ∈ Tb K := ⟨F.tb _ (List.mem_of_getElem? (i := 1) rfl), List.mem_map.mpr ⟨_, List.mem_map.mpr ⟨_, List.mem_of_getElem? (i := 1) rfl, rfl⟩, rfl⟩⟩
theorem Fx.tb_And_has (F : Fx P w K mg base) : LamX.TabB base mg (He.cT K ("And", some "has")).1 (He.cT K ("And", some "has")).2 ∧ (He.cT K ("And", some "has")).2 ∈ Tb K := ⟨F.tb _ (List.mem_of_getElem? (i := 2) rfl), List.mem_map.mpr ⟨_, List.mem_map.mpr ⟨_, List.mem_of_getElem? (i := 2) rfl, rfl⟩, rfl⟩⟩
theorem Fx.tb_And_covers (F : Fx P w K mg base) : LamX.TabB base mg (He.cT K ("And", some "covers")).1 (He.cT K ("And", some "covers")).2 ∧ (He.cT K ("And", some "covers")).2 ∈ Tb K := ⟨F.tb _ (List.mem_of_getElem? (i := 3) rfl), List.mem_map.mpr ⟨_, List.mem_map.mpr ⟨_, List.mem_of_getElem? (i := 3) rfl, rfl⟩, rfl⟩⟩
theorem Fx.tb_check_rules (F : Fx P w K mg base) : LamX.TabB base mg (He.cT K ("check_rules", none)).1 (He.cT K ("check_rules", none)).2 ∧ (He.cT K ("check_rules", none)).2 ∈ Tb K := ⟨F.tb _ (List.mem_of_getElem? (i := 4) rfl), List.mem_map.mpr ⟨_, List.mem_map.mpr ⟨_, List.mem_of_getElem? (i := 4) rfl, rfl⟩, rfl⟩⟩
theorem Fx.tb_inner (F : Fx P w K mg base) : LamX.TabB base mg (He.cT K ("inner", none)).1 (He.cT K ("inner", none)).2 ∧ (He.cT K ("inner", none)).2 ∈ Tb K := ⟨F.tb _ (List.mem_of_getElem? (i := 5) rfl), List.mem_map.mpr ⟨_, List.mem_map.mpr ⟨_, List.mem_of_getElem? (i := 5) rfl, rfl⟩, rfl⟩⟩
theorem Fx.tb_check_signed (F : Fx P w K mg base) : LamX.TabB base mg (He.cT K ("check_signed", none)).1 (He.cT K ("check_signed", none)).2 ∧ (He.cT K ("check_signed", none)).2 ∈ Tb K := ⟨F.tb _ (List.mem_of_getElem? (i := 6) rfl), List.mem_map.mpr ⟨_, List.mem_map.mpr ⟨_, List.mem_of_getElem? (i := 6) rfl, rfl⟩, rfl⟩⟩
theorem Fx.tb_Winnow_guess (F : Fx P w K mg base) : LamX.TabB base mg (He.cT K ("Winnow", some "guess")).1 (He.cT K ("Winnow", some "guess")).2 ∧ (He.cT K ("Winnow", some "guess")).2 ∈ Tb K := ⟨F.tb _ (List.mem_of_getElem? (i := 7) rfl), List.mem_map.mpr ⟨_, List.mem_map.mpr ⟨_, List.mem_of_getElem? (i := 7) rfl, rfl⟩, rfl⟩⟩
theorem Fx.tb_Winnow_see (F : Fx P w K mg base) : LamX.TabB base mg (He.cT K ("Winnow", some "see")).1 (He.cT K ("Winnow", some "see")).2 ∧ (He.cT K ("Winnow", some "see")).2 ∈ Tb K := ⟨F.tb _ (List.mem_of_getElem? (i := 8) rfl), List.mem_map.mpr ⟨_, List.mem_map.mpr ⟨_, List.mem_of_getElem? (i := 8) rfl, rfl⟩, rfl⟩⟩
end
end H65

set_option Elab.async false
set_option linter.all false
set_option maxRecDepth 100000
set_option maxHeartbeats 0
/-! the head's run. Printed by mkhead.py. -/
namespace H65
open PySem PySem.Spec PyProof.Rows L2 LW
abbrev R : PySem.W.OpenRow := PySem.W.OpenLaw.row PySem.Challenge.rw_lessonwright_k65_whole_mistakes_at_any_s
def names0 : List PySem.Str := ["_wall", "LearnFault", "BadExample", "BadSize", "Vote", "power", "vote_bound", "Mix", "common", "small", "added", "in_bounds", "And", "Learner", "most_mistakes", "check_rules", "kept", "Halving", "most_halvings", "inner", "check_signed", "Parter", "margin", "side_bound", "Winnow", "logarithm", "most_winnow", "_law_dice", "_law_roll", "_law_rounds"]
def names1 : List PySem.Str := ["_law_answers"]
def names : List PySem.Str := names0 ++ names1
abbrev hk : PySem.W.Hook := He.hookX 5 fa fn [] tf fun _ => true
def ob (s : PySem.W.SharedT) : He.AlX := He.obsX 5 fa fn [] tf (fun _ => true) (HandSHeadRun.getT s)
theorem ob_eq (s : PySem.W.SharedT) : ob s = hk.obs s.abs := He.obsX_eq (HandSHeadRun.getT_eq s)
theorem run (w : World) : HandSHeadRun.RunEq R (PySem.W.view R.prog [38]) hk ob 20000 names w := by
  intro os
  kernel_rfl
end H65

set_option Elab.async false
set_option linter.all false
set_option maxRecDepth 100000
set_option maxHeartbeats 4000000
/-! the dice of the law (the same text in each law). -/
namespace H65
open PySem PySem.Spec PyProof.Rows L2 LW
theorem sc_roll : FnScope ["dice", "many", "found"] ["dice", "many"] (defScope s_law_roll) := ⟨rfl, rfl, rfl, by decide +kernel, rfl, by decide +kernel, by decide +kernel⟩
theorem sc_dice : FnScope ["cell"] ["cell"] (defScope s_law_dice) := ⟨rfl, rfl, rfl, by decide +kernel, rfl, by decide +kernel, by decide +kernel⟩
theorem sc_rounds : FnScope ["script", "most", "cells", "cell"] ["script", "most"] (defScope s_law_rounds) := ⟨rfl, rfl, rfl, by decide +kernel, rfl, by decide +kernel, by decide +kernel⟩
abbrev spRoll (w : World) (T : List Addr) : Sp := spC w T (fun x : RollA => [.ref x.p, .int x.m]) (fun x => [some (x.p, .lst (diceD x.c))]) (fun x d m => d = .int (rollV x.c x.m) ∧ m = [some (x.p, .lst (diceD (rollC x.c x.m)))])
section
variable {P : Program} {w : World} {K : PySem.W.Frag} {mg : Str → Option Value} {base : Heap} {T : List Addr}
theorem roll_ok (F : Fx P w K mg base) : Cal P w K mg base 1 (He.fAd K ("_law_roll", none)) ["dice", "many"] (spRoll w T) := by
  obtain ⟨fd, Fc, hb⟩ := F.fn_law_roll
  refine ⟨⟨fd, LW.fn_ok Fc sc_roll (fun x => [some (.ref x.p), some (.int x.m), none]) (fun x A outer s H E hr => ?_), hb⟩, Fc.kp⟩
  obtain ⟨p, c, m, h0, h1⟩ := x
  have nd : (["dice", "many", "found"] : List Str).Nodup := sc_roll.nd
  refine pb_ifret (k := big c) (pdt_or (pdt_eqI (pd_ixL (LV.own 0) rfl (pd_var 0) pd_int) pd_int) fun _ => pdt_and (pdt_eqI (pd_ixL (LV.own 0) rfl (pd_var 0) pd_int) pd_int) fun _ => pdt_gt (pd_ixL (LV.own 0) rfl (pd_var 0) pd_int) pd_int) (fun hb => ?_) fun hb => ?_
  · refine pb_set 2 (pd_mod h0 (pd_intI F.free_int (pd_ixL (LV.own 0) rfl (pd_var 0) pd_int)) (pd_var 1)) nd ?_
    refine pb_setix 0 (pd_fdiv ⟨h0, h1⟩ (pd_ixL (LV.own 0) rfl (pd_var 0) pd_int) (pd_var 1)) (pd_var 0) pd_int rfl rfl ?_
    refine pb_ret (pd_var 2) ⟨?_, ?_⟩
    · unfold rollV
      rw [if_pos hb]
    · unfold rollC
      rw [if_pos hb]
      rfl
  · refine pb_setix 0 pd_int (pd_var 0) pd_int rfl rfl ?_
    refine pb_setix 0 (pd_mod (by decide) (pd_intI F.free_int (pd_add (pd_add (pd_mul (.inr ⟨by decide, by decide⟩) (pd_ixL (LV.own 0) rfl (pd_var 0) pd_int) pd_int) (pd_mul (.inr ⟨by decide, by decide⟩) (pd_ixL (LV.own 0) rfl (pd_var 0) pd_int) pd_int)) pd_int)) pd_int) (pd_var 0) pd_int rfl rfl ?_
    refine pb_setix 0 (pd_add (pd_ixL (LV.own 0) rfl (pd_var 0) pd_int) pd_int) (pd_var 0) pd_int rfl rfl ?_
    refine pb_ret (pd_mod h0 (pd_intI F.free_int (pd_add (pd_fdiv ⟨by decide, by decide⟩ (pd_ixL (LV.own 0) rfl (pd_var 0) pd_int) pd_int) (pd_ixL (LV.own 0) rfl (pd_var 0) pd_int))) (pd_var 1)) ⟨?_, ?_⟩
    · unfold rollV
      rw [if_neg (by rw [hb]; exact Bool.false_ne_true)]
      rfl
    · unfold rollC
      rw [if_neg (by rw [hb]; exact Bool.false_ne_true)]
      rfl
theorem dice_ok (F : Fx P w K mg base) : Cal P w K mg base 1 (He.fAd K ("_law_dice", none)) ["cell"] (spC w T (fun z : Int => [.int z]) (fun _ => []) (fun z d m => ∃ p, d = .ref p ∧ m = [some (p, .lst (diceD (diceOf z)))])) := by
  obtain ⟨fd, Fc, hb⟩ := F.fn_law_dice
  refine ⟨⟨fd, LW.fn_ok Fc sc_dice (fun z => [some (.int z)]) (fun z A outer s H E hr => ?_), hb⟩, Fc.kp⟩
  refine pb_ifret (k := decide (0 - 10 < z) && decide (z < 10)) (pdt_chain op_lt op_lt ok_ib ok_ib (pd_sub pd_int pd_int) (pd_var 0) pd_int fun _ => rfl) (fun hb => ?_) fun hb => ?_
  · refine pb_retR (pdr_lst (pdl_cons (pd_abs F.free_abs (pd_var 0)) (pdl_cons pd_int (pdl_1 pd_int)))) ?_
    rintro d m ⟨q, e1, e2⟩
    refine ⟨q, e1, ?_⟩
    rw [e2]
    unfold diceOf
    rw [if_pos hb]
    rfl
  · refine pb_retR (pdr_lst (pdl_cons (pd_var 0) (pdl_cons (pd_add pd_int (pd_mod (by decide) (pd_intI F.free_int (pd_var 0)) pd_int)) (pdl_1 (pd_intB F.free_int (pd_ge (pd_var 0) (pd_pow ⟨by decide, by decide, by decide⟩ pd_int pd_int))))))) ?_
    rintro d m ⟨q, e1, e2⟩
    refine ⟨q, e1, ?_⟩
    have e : diceOf z = (z, 1 + z % 1009, if decide (10 ^ 18 ≤ z) then 1 else 0) := by
      unfold diceOf
      rw [if_neg (by rw [hb]; exact Bool.false_ne_true)]
    rw [e2, e]
    rfl
theorem cut1 (ns : List Int) : LW.cutD ns none (some 1) = ns.take 1 := by
  unfold LW.cutD
  show (ns.drop 0).take (HT.sIx ns.length ns.length (some ((1 : Nat) : Int)) - 0) = _
  rw [HT.sIx_nat, List.drop_zero, Nat.sub_zero]
  cases ns with
  | nil => rfl
  | cons z r => simp
theorem rounds_ok (F : Fx P w K mg base) : Cal P w K mg base 2 (He.fAd K ("_law_rounds", none)) ["script", "most"] (spS K w T (fun _ => True) 1 roundsPost) := by
  obtain ⟨fd, Fc, hb⟩ := F.fn_law_rounds
  refine ⟨⟨fd, fnS_ok Fc sc_rounds (fun a ns A outer s H E _ hr => ?_), hb⟩, Fc.kp⟩
  have nd := sc_rounds.nd
  have hu := un_of hr (n := 64) (by decide)
  refine pbS_set 2 (pe_script (j := 1) 0 1) nd fun d m ⟨e1, e2⟩ => ?_
  subst e1 e2
  rw [cut1]
  have fin : ∀ (z : Int), PB (cxOf CX0 P w K mg base ["script", "most", "cells", "cell"] "_law_rounds" (defScope s_law_rounds) (He.fAd K ("_law_rounds", none)) (.ref (He.codeOf K ("_law_rounds", none))) A outer s H E).nox T [some (.ref a), some (.int 1), some (.lst [.int z]), none] [] ((defBody s_law_rounds).drop 2) (fun _ m => roundsPost ns .non m) (roundsPost ns) := by
    intro z
    refine pb_retR (pdr_lc (ds := [.int z]) (own := [("cell", 3)]) (fun i acc m => (i = 0 ∧ acc = [] ∧ m = []) ∨ (i = 1 ∧ ∃ p, acc = [.ref p] ∧ m = [some (p, .lst (diceD (diceOf z)))])) (pdi_list LV.dat (pd_var 2)) nd (blkOk_by (by kernel_rfl)) (fun s H C cl fp => pg_name nd rfl (Or.inl rfl)) (tgt_name 3) (by decide) (.inl ⟨rfl, rfl, rfl⟩) (fun _ _ _ _ => .dat)
      (fun i acc m h => by rcases h with ⟨_, e, _⟩ | ⟨_, p, e, _⟩ <;> rw [e] <;> exact Nat.le_of_ble_eq_true rfl) (fun i d h => ⟨_, rfl⟩) fun i d us acc m h1 h2 h3 s H C cl fp => ?_) ?_
    · cases h2
      have hi : i = 0 := by
        have := (List.getElem?_eq_some_iff.mp h1).1
        simpa using this
      subst hi
      cases h1
      rcases h3 with ⟨_, e2, e3⟩ | ⟨e0, _⟩
      · subst e2 e3
        exact pdr_imp (pdr_cC z (Mo := fun m => m) (dice_ok F) (hr.mono (by decide)) F.glo_law_dice (pdl_1 (pd_var 3)) rfl Fram.all) fun d' m ⟨m', e4, p, e5, e6⟩ => .inr ⟨rfl, p, by rw [e5]; rfl, by rw [e4, e6]⟩
      · cases e0
    · rintro d m ⟨acc, e1, h⟩
      rcases h with ⟨e0, _⟩ | ⟨_, p, e2, e3⟩
      · cases e0
      · exact ⟨p, z, by rw [e1, e2], e3⟩
  match ns with
  | [] =>
    refine pb_if (k := true) (Nx1 := fun ρ' m => ρ' = [some (.ref a), some (.int 1), some (.lst [.int 0]), none] ∧ m = []) (pdt_eqD (x := .list []) (y := .list []) hu (.dat rfl) (.dat rfl) rfl rfl rfl (pd_var 2) (pd_lst pdl_nil)) (fun _ => ?_) (fun h => by cases h) fun ρ' m ⟨e1, e2⟩ => ?_
    · exact pb_set 2 (pd_lst (pdl_1 pd_int)) nd (pb_nil ⟨rfl, rfl⟩)
    · subst e1 e2
      exact fin 0
  | z :: r =>
    refine pb_if (k := false) (Nx1 := fun ρ' m => ρ' = [some (.ref a), some (.int 1), some (.lst [.int z]), none] ∧ m = []) (pdt_eqD (x := .list [.int z]) (y := .list []) hu (.dat rfl) (.dat rfl) rfl rfl rfl (pd_var 2) (pd_lst pdl_nil)) (fun h => by cases h) (fun _ => pb_nil ⟨rfl, rfl⟩) fun ρ' m ⟨e1, e2⟩ => ?_
    subst e1 e2
    exact fin z
end
end H65

set_option Elab.async false
set_option linter.all false
set_option maxRecDepth 100000
set_option maxHeartbeats 4000000
/-! one roll, as the law says it (the same text in each law). -/
namespace H65
open PySem PySem.Spec PyProof.Rows L2 LW
theorem pd_roll {X : Cx} {T : List Addr} {ρ : List (Option D)} {M M1 : Mem} {a e : Expr} {pos p : Pos} (F : Fx X.prog X.w X.K X.mg X.base) (j : Nat) {q : Addr} {c : Dice} {m : Int} (h0 : 0 < m) (h1 : m < 1073741824) (hr : Room 1 X.A) (ha : PD X T ρ M a (.ref q) M) (he : PD X T ρ M e (.int m) M1) (hj : M1[j]? = some (some (q, .lst (diceD c))) := by rfl)
    (hg : Gl X "_law_roll" := by rfl) (hs : starEach [a, e] X.env = (false, eval a X.env) :: starEach [e] X.env := by rfl) (hs2 : starEach [e] X.env = (false, eval e X.env) :: starEach [] X.env := by rfl) (hpl : (backTo pos (starEach [e] X.env)).any (·.1) = false := by rfl) :
    PD X T ρ M (.Call (.Name "_law_roll" p) [a, e] [] pos) (.int (rollV c m)) (M1.set j (some (q, .lst (diceD (rollC c m))))) :=
  pd_ofR (pdr_cC (⟨q, c, m, h0, h1⟩ : RollA) (roll_ok F) hr F.glo_law_roll (pdl_cons ha (pdl_1 he hs2) hs) rfl (Fram.one j hj) hg (by decide) hs hpl) fun d m ⟨m', e1, e2, e3⟩ => ⟨e2, by rw [e1, e3]; exact List.append_nil _⟩
end H65

set_option Elab.async false
set_option linter.all false
set_option maxRecDepth 100000
set_option maxHeartbeats 4000000
set_option exponentiation.threshold 100000
/-! k65: power, vote_bound, common, small, added, most_mistakes, most_halvings, logarithm, most_winnow. -/
namespace H65
open PySem PySem.Spec PyProof.Rows L2 LW
theorem sc_power : FnScope ["base", "count", "found", "turn"] ["base", "count"] (defScope s_power) := ⟨rfl, rfl, rfl, by decide +kernel, rfl, by decide +kernel, by decide +kernel⟩
theorem sc_vb : FnScope ["mistakes", "best", "many"] ["mistakes", "best", "many"] (defScope s_vote_bound) := ⟨rfl, rfl, rfl, by decide +kernel, rfl, by decide +kernel, by decide +kernel⟩
theorem sc_common : FnScope ["one", "other"] ["one", "other"] (defScope s_common) := ⟨rfl, rfl, rfl, by decide +kernel, rfl, by decide +kernel, by decide +kernel⟩
theorem sc_small : FnScope ["top", "low", "by"] ["top", "low"] (defScope s_small) := ⟨rfl, rfl, rfl, by decide +kernel, rfl, by decide +kernel, by decide +kernel⟩
theorem sc_added : FnScope ["one", "other"] ["one", "other"] (defScope s_added) := ⟨rfl, rfl, rfl, by decide +kernel, rfl, by decide +kernel, by decide +kernel⟩
theorem sc_mm : FnScope ["many"] ["many"] (defScope s_most_mistakes) := ⟨rfl, rfl, rfl, by decide +kernel, rfl, by decide +kernel, by decide +kernel⟩
theorem sc_mh : FnScope ["many", "found"] ["many"] (defScope s_most_halvings) := ⟨rfl, rfl, rfl, by decide +kernel, rfl, by decide +kernel, by decide +kernel⟩
theorem sc_log : FnScope ["many", "found", "power"] ["many"] (defScope s_logarithm) := ⟨rfl, rfl, rfl, by decide +kernel, rfl, by decide +kernel, by decide +kernel⟩
theorem sc_mw : FnScope ["many", "few", "lacks"] ["many", "few"] (defScope s_most_winnow) := ⟨rfl, rfl, rfl, by decide +kernel, rfl, by decide +kernel, by decide +kernel⟩
/-- a power's arguments -/
structure PowA where
  b : Int
  c : Nat
  h : -(2 ^ 64) < b ∧ b < 2 ^ 64 ∧ c ≤ 1000
abbrev spPow (w : World) (T : List Addr) : Sp := spP w T (fun x : PowA => [.int x.b, .int x.c]) (fun x => .int (x.b ^ x.c))
section
variable {P : Program} {w : World} {K : PySem.W.Frag} {mg : Str → Option Value} {base : Heap} {T : List Addr}
theorem power_ok (F : Fx P w K mg base) : Cal P w K mg base 1 (He.fAd K ("power", none)) ["base", "count"] (spPow w T) := by
  obtain ⟨fd, Fc, hb⟩ := F.fn_power
  refine ⟨⟨fd, LW.fn_ok Fc sc_power (fun x => [some (.int x.b), some (.int x.c), none, none]) (fun x A outer s H E hr => ?_), hb⟩, Fc.kp⟩
  obtain ⟨b, c, h1, h2, h3⟩ := x
  have nd := sc_power.nd
  refine pb_set 2 pd_int nd ?_
  refine pb_for (pdi_range1 (j := c) F.free_range (pd_var 1) (by omega) (by omega)) (pg_name (i := 3) nd rfl (Or.inl rfl)) (tgt_name 3) (fun i ρ m => m = [] ∧ ∃ t, ρ = [some (.int b), some (.int c), some (.int (b ^ i)), t]) ⟨rfl, none, by rw [Int.pow_zero]; rfl⟩ (fun _ _ _ _ _ => trivial) (fun i d h => ⟨_, rfl⟩) (fun i d us ρ' m h1' h2' h3' => ?_) fun ρ' m h => ?_
  · obtain ⟨rfl, t, rfl⟩ := h3'
    cases h2'
    refine pb_aug 2 nd (pd_var 0) iop_mul (ok_i (.inr ⟨h1, h2⟩)) (pb_nil ⟨rfl, some d, ?_⟩)
    rw [Int.pow_succ]
    rfl
  · obtain ⟨rfl, t, rfl⟩ := h
    refine pb_ret (pd_var 2) ⟨?_, rfl⟩
    rw [rngD_length]
    rfl
/-- mistakes, best, many -/
structure VbA where
  m : Nat
  b : Nat
  n : Nat
  h : m ≤ 1000 ∧ b ≤ 1000 ∧ n ≤ 1000
theorem log2_pow_le (x : Int) (k : Nat) (h : x.natAbs < 2 ^ k) (hk : 0 < k) : x.natAbs.log2 < k := by
  by_cases h0 : x.natAbs = 0
  · rw [h0]; simpa using hk
  · exact (Nat.log2_lt h0).mpr h
theorem natAbs_pow_lt (b : Nat) (c k : Nat) (hb : b ≤ 2 ^ k) : ((b : Int) ^ c).natAbs ≤ 2 ^ (k * c) := by
  rw [Int.natAbs_pow, Int.natAbs_natCast, Nat.pow_mul]
  exact Nat.pow_le_pow_left hb c
theorem vb_ok (F : Fx P w K mg base) : Cal P w K mg base 2 (He.fAd K ("vote_bound", none)) ["mistakes", "best", "many"] (spP w T (fun x : VbA => [.int x.m, .int x.b, .int x.n]) (fun x => .bl (decide ((4 : Int) ^ x.m ≤ x.n * 2 ^ x.b * 3 ^ x.m)))) := by
  obtain ⟨fd, Fc, hb⟩ := F.fn_vote_bound
  refine ⟨⟨fd, LW.fn_ok Fc sc_vb (fun x => [some (.int x.m), some (.int x.b), some (.int x.n)]) (fun x A outer s H E hr => ?_), hb⟩, Fc.kp⟩
  obtain ⟨m, b, n, h1, h2, h3⟩ := x
  have e2 : (((2 : Nat) : Int) ^ b).natAbs ≤ 2 ^ (1 * b) := natAbs_pow_lt 2 b 1 (by decide)
  have e3 : (((3 : Nat) : Int) ^ m).natAbs ≤ 2 ^ (2 * m) := natAbs_pow_lt 3 m 2 (by decide)
  have l2 : (2 : Nat) ^ (1 * b) ≤ 2 ^ 1000 := Nat.pow_le_pow_right (by decide) (by omega)
  have l3 : (2 : Nat) ^ (2 * m) ≤ 2 ^ 2000 := Nat.pow_le_pow_right (by decide) (by omega)
  have b2 : ((2 : Int) ^ b).natAbs.log2 < 1001 := log2_pow_le _ _ (Nat.lt_of_le_of_lt (Nat.le_trans e2 l2) (Nat.pow_lt_pow_right (by decide) (by decide))) (by decide)
  have b3 : ((3 : Int) ^ m).natAbs.log2 < 2001 := log2_pow_le _ _ (Nat.lt_of_le_of_lt (Nat.le_trans e3 l3) (Nat.pow_lt_pow_right (by decide) (by decide))) (by decide)
  have bn : ((n : Int) * 2 ^ b).natAbs.log2 < 1011 := log2_pow_le _ _ (by
    rw [Int.natAbs_mul, Int.natAbs_natCast]
    refine Nat.lt_of_le_of_lt (Nat.mul_le_mul h3 (Nat.le_trans e2 l2)) ?_
    rw [show (2 : Nat) ^ 1011 = 2048 * 2 ^ 1000 from by rw [show (2048 : Nat) = 2 ^ 11 from rfl, ← Nat.pow_add]]
    exact Nat.mul_lt_mul_of_pos_right (by decide) (Nat.pow_pos (by decide))) (by decide)
  refine pb_ret (pd_le (pd_cC (val := fun x : PowA => .int (x.b ^ x.c)) ⟨4, m, by decide, by decide, h1⟩ (power_ok F) (hr.mono (by decide)) F.glo_power (pdl_cons pd_int (pdl_1 (pd_var 0))) rfl)
    (pd_mulW ?_ (pd_mul (i := n) (.inl ⟨by omega, by omega⟩) (pd_var 2) (pd_cC (val := fun x : PowA => .int (x.b ^ x.c)) ⟨2, b, by decide, by decide, h2⟩ (power_ok F) (hr.mono (by decide)) F.glo_power (pdl_cons pd_int (pdl_1 (pd_var 1))) rfl))
      (pd_cC (val := fun x : PowA => .int (x.b ^ x.c)) ⟨3, m, by decide, by decide, h1⟩ (power_ok F) (hr.mono (by decide)) F.glo_power (pdl_cons pd_int (pdl_1 (pd_var 0))) rfl))) ⟨rfl, rfl⟩
  exact Nat.lt_of_lt_of_le (Nat.add_lt_add bn b3) (by decide)
/-! fractions -/
theorem common_ok (F : Fx P w K mg base) : Cal P w K mg base 1 (He.fAd K ("common", none)) ["one", "other"] (spP w T (fun x : Nat × Nat => [.int x.1, .int x.2]) (fun x => .int (Nat.gcd x.1 x.2 : Nat))) := by
  obtain ⟨fd, Fc, hb⟩ := F.fn_common
  refine ⟨⟨fd, LW.fn_ok Fc sc_common (fun x => [some (.int x.1), some (.int x.2)]) (fun x A outer s H E hr => ?_), hb⟩, Fc.kp⟩
  obtain ⟨a, b⟩ := x
  have nd := sc_common.nd
  refine pb_while (fun ρ m k m1 => m = [] ∧ m1 = [] ∧ ∃ x y : Nat, ρ = [some (.int x), some (.int y)] ∧ Nat.gcd x y = Nat.gcd a b ∧ k = !decide (((y : Nat) : Int) = 0)) (fun ρ _ => match ρ with
    | [_, some (.int y)] => y.toNat
    | _ => 0) ⟨_, [], rfl, rfl, a, b, rfl, rfl, rfl⟩ (fun ρ' m k m1 h => ?_) (fun ρ' m m1 h => ?_) fun ρ' m m1 h => ?_
  · obtain ⟨rfl, rfl, x, y, rfl, _, rfl⟩ := h
    exact pdt_neI (pd_var 1) pd_int
  · obtain ⟨rfl, rfl, x, y, rfl, e, hk⟩ := h
    have hy : 0 < y := by
      rcases Nat.eq_zero_or_pos y with z | z
      · subst z; simp at hk
      · exact z
    refine pb_par 0 1 (pdl_cons (pd_var 1) (pdl_1 (pd_mod (i := x) (j := y) (by omega) (pd_var 0) (pd_var 1)))) nd (pb_nil ⟨?_, _, [], rfl, rfl, y, x % y, ?_, ?_, rfl⟩)
    · show (((x : Nat) : Int) % ((y : Nat) : Int)).toNat < ((y : Nat) : Int).toNat
      have : ((x : Nat) : Int) % ((y : Nat) : Int) = ((x % y : Nat) : Int) := rfl
      rw [this]
      have := Nat.mod_lt x hy
      omega
    · rfl
    · rw [← e, Nat.gcd_comm y, ← Nat.gcd_rec, Nat.gcd_comm]
  · obtain ⟨rfl, rfl, x, y, rfl, e, hk⟩ := h
    have hy : y = 0 := by
      rcases Nat.eq_zero_or_pos y with z | z
      · exact z
      · have : decide (((y : Nat) : Int) = 0) = false := decide_eq_false (by omega)
        rw [this] at hk
        cases hk
    subst hy
    refine pb_ret (pd_var 0) ⟨?_, rfl⟩
    show D.int _ = D.int ((Nat.gcd a b : Nat) : Int)
    rw [← e, Nat.gcd_zero_right]
/-- a fraction -/
def frD (x : Nat × Nat) : D := .tup [.int x.1, .int x.2]
def sml (a b : Nat) : Nat × Nat := (a / Nat.gcd a b, b / Nat.gcd a b)
structure SmA where
  a : Nat
  b : Nat
  h : 0 < b ∧ b < 2 ^ 9000
theorem small_ok (F : Fx P w K mg base) : Cal P w K mg base 2 (He.fAd K ("small", none)) ["top", "low"] (spP w T (fun x : SmA => [.int x.a, .int x.b]) (fun x => frD (sml x.a x.b))) := by
  obtain ⟨fd, Fc, hb⟩ := F.fn_small
  refine ⟨⟨fd, LW.fn_ok Fc sc_small (fun x => [some (.int x.a), some (.int x.b), none]) (fun x A outer s H E hr => ?_), hb⟩, Fc.kp⟩
  obtain ⟨a, b, h1, h2⟩ := x
  have nd := sc_small.nd
  have g0 : 0 < Nat.gcd a b := Nat.gcd_pos_of_pos_right _ h1
  have gl : (Nat.gcd a b).log2 < 9000 := (Nat.log2_lt (Nat.ne_of_gt g0)).mpr (Nat.lt_of_le_of_lt (Nat.gcd_le_right _ h1) h2)
  refine pb_set 2 (pd_cC (a, b) (common_ok F) (hr.mono (by decide)) F.glo_common (pdl_cons (pd_var 0) (pdl_1 (pd_var 1))) rfl) nd ?_
  refine pb_ret (pd_tup (pdl_cons (pd_fdivW (j := (Nat.gcd a b : Nat)) ⟨by omega, gl⟩ (pd_var 0) (pd_var 2)) (pdl_1 (pd_fdivW (j := (Nat.gcd a b : Nat)) ⟨by omega, gl⟩ (pd_var 1) (pd_var 2))))) ⟨rfl, rfl⟩
structure AdA where
  x : Nat × Nat
  y : Nat × Nat
  h : 0 < x.2 ∧ 0 < y.2 ∧ x.1 < 2 ^ 4400 ∧ x.2 < 2 ^ 4400 ∧ y.1 < 2 ^ 4400 ∧ y.2 < 2 ^ 4400
def addF (x y : Nat × Nat) : Nat × Nat := sml (x.1 * y.2 + y.1 * x.2) (x.2 * y.2)
theorem mulW_of {a b : Nat} (h1 : a < 2 ^ 40000) (h2 : b < 2 ^ 40000) : CMulW a b := by
  have q1 := log2_pow_le (a : Int) 40000 (by rw [Int.natAbs_natCast]; exact h1) (by decide)
  have q2 := log2_pow_le (b : Int) 40000 (by rw [Int.natAbs_natCast]; exact h2) (by decide)
  exact Nat.lt_of_lt_of_le (Nat.add_lt_add q1 q2) (by decide)
theorem up4 {a : Nat} (h : a < 2 ^ 4400) : a < 2 ^ 40000 := Nat.lt_of_lt_of_le h (Nat.pow_le_pow_right (by decide) (by decide))
theorem mul_lt_pow {a b i j : Nat} (h1 : a < 2 ^ i) (h2 : b < 2 ^ j) : a * b < 2 ^ (i + j) := by
  rw [Nat.pow_add]
  exact Nat.mul_lt_mul'' h1 h2
theorem added_ok (F : Fx P w K mg base) : Cal P w K mg base 3 (He.fAd K ("added", none)) ["one", "other"] (spP w T (fun x : AdA => [frD x.x, frD x.y]) (fun x => frD (addF x.x x.y))) := by
  obtain ⟨fd, Fc, hb⟩ := F.fn_added
  refine ⟨⟨fd, LW.fn_ok Fc sc_added (fun x => [some (frD x.x), some (frD x.y)]) (fun x A outer s H E hr => ?_), hb⟩, Fc.kp⟩
  obtain ⟨⟨a, b⟩, ⟨c, d⟩, h1, h2, h3, h4, h5, h6⟩ := x
  have hbd : b * d < 2 ^ 9000 := Nat.lt_of_lt_of_le (mul_lt_pow h4 h6) (Nat.pow_le_pow_right (by decide) (by decide))
  refine pb_ret (pd_cC (ds := [.int ((a * d + c * b : Nat) : Int), .int ((b * d : Nat) : Int)]) (⟨a * d + c * b, b * d, Nat.mul_pos h1 h2, hbd⟩ : SmA) (small_ok F) (hr.mono (by decide)) F.glo_small (pdl_cons
    (pd_add (i := ((a * d : Nat) : Int)) (j := ((c * b : Nat) : Int)) (pd_mulW (mulW_of (up4 h3) (up4 h6)) (pd_ixT rfl (pd_var 0) pd_int) (pd_ixT rfl (pd_var 1) pd_int)) (pd_mulW (mulW_of (up4 h5) (up4 h4)) (pd_ixT rfl (pd_var 1) pd_int) (pd_ixT rfl (pd_var 0) pd_int)))
    (pdl_1 (pd_mulW (mulW_of (up4 h4) (up4 h6)) (pd_ixT rfl (pd_var 0) pd_int) (pd_ixT rfl (pd_var 1) pd_int)))) rfl) ⟨rfl, rfl⟩
/-! numbers -/
theorem mm_ok (F : Fx P w K mg base) : Cal P w K mg base 1 (He.fAd K ("most_mistakes", none)) ["many"] (spP w T (fun n : Int => [.int n]) (fun n => .int (n + 1))) := by
  obtain ⟨fd, Fc, hb⟩ := F.fn_most_mistakes
  refine ⟨⟨fd, LW.fn_ok Fc sc_mm (fun n => [some (.int n)]) (fun n A outer s H E hr => ?_), hb⟩, Fc.kp⟩
  exact pb_ret (pd_add (pd_var 0) pd_int) ⟨rfl, rfl⟩
theorem log2_half {x : Nat} (h : 1 < x) : x.log2 = (x / 2).log2 + 1 := by
  rw [Nat.log2_def]
  exact if_pos h
theorem mh_ok (F : Fx P w K mg base) : Cal P w K mg base 1 (He.fAd K ("most_halvings", none)) ["many"] (spP w T (fun n : Nat => [.int n]) (fun n => .int (n.log2 : Nat))) := by
  obtain ⟨fd, Fc, hb⟩ := F.fn_most_halvings
  refine ⟨⟨fd, LW.fn_ok Fc sc_mh (fun n => [some (.int n), none]) (fun n A outer s H E hr => ?_), hb⟩, Fc.kp⟩
  have nd := sc_mh.nd
  refine pb_set 1 pd_int nd ?_
  refine pb_while (fun ρ m k m1 => m = [] ∧ m1 = [] ∧ ∃ x f : Nat, ρ = [some (.int x), some (.int f)] ∧ f + x.log2 = n.log2 ∧ k = decide ((1 : Int) < x)) (fun ρ _ => match ρ with
    | [some (.int x), _] => x.toNat
    | _ => 0) ⟨_, [], rfl, rfl, n, 0, rfl, Nat.zero_add _, rfl⟩ (fun ρ' m k m1 h => ?_) (fun ρ' m m1 h => ?_) fun ρ' m m1 h => ?_
  · obtain ⟨rfl, rfl, x, f, rfl, _, rfl⟩ := h
    exact pdt_gt (pd_var 0) pd_int
  · obtain ⟨rfl, rfl, x, f, rfl, e, hk⟩ := h
    have hx : 1 < x := by have := of_decide_eq_true hk.symm; omega
    refine pb_aug 0 nd pd_int iop_fdiv (ok_i (i := x) ⟨by decide, by decide⟩) ?_
    refine pb_aug 1 nd pd_int iop_add (ok_i0 (i := f)) (pb_nil ⟨?_, _, [], rfl, rfl, x / 2, f + 1, rfl, ?_, rfl⟩)
    · show (((x / 2 : Nat) : Int)).toNat < ((x : Nat) : Int).toNat
      omega
    · rw [← e, log2_half hx]
      omega
  · obtain ⟨rfl, rfl, x, f, rfl, e, hk⟩ := h
    have hx : x ≤ 1 := by have := of_decide_eq_false hk.symm; omega
    refine pb_ret (pd_var 1) ⟨?_, rfl⟩
    have : x.log2 = 0 := by
      rw [Nat.log2_def, if_neg (by omega)]
    show D.int _ = D.int ((n.log2 : Nat) : Int)
    rw [← e, this]
    rfl
/-- the least k with n ≤ 2 ^ k -/
def clog (n : Nat) : Nat := if n ≤ 1 then 0 else (n - 1).log2 + 1
theorem lt_clog {n k : Nat} : 2 ^ k < n ↔ k < clog n := by
  unfold clog
  have h1 : 1 ≤ 2 ^ k := Nat.one_le_two_pow
  split
  · constructor <;> intro h <;> omega
  · rename_i hn
    have q := Nat.le_log2 (n := n - 1) (k := k) (by omega)
    constructor
    · intro h
      have := q.mpr (by omega)
      omega
    · intro h
      have := q.mp (by omega)
      omega
theorem log_ok (F : Fx P w K mg base) : Cal P w K mg base 1 (He.fAd K ("logarithm", none)) ["many"] (spP w T (fun n : Nat => [.int n]) (fun n => .int (clog n : Nat))) := by
  obtain ⟨fd, Fc, hb⟩ := F.fn_logarithm
  refine ⟨⟨fd, LW.fn_ok Fc sc_log (fun n => [some (.int n), none, none]) (fun n A outer s H E hr => ?_), hb⟩, Fc.kp⟩
  have nd := sc_log.nd
  refine pb_asgG (pd_tup (pdl_cons pd_int (pdl_1 pd_int))) (pg_tup rfl (pgs_cons (pg_name nd (i := 1) rfl (Or.inl rfl)) (pgs_cons (pg_name nd (i := 2) rfl (Or.inl rfl)) pgs_nil))) (tgt_tup [1, 2]) rfl ?_
  refine pb_while (fun ρ m k m1 => m = [] ∧ m1 = [] ∧ ∃ f : Nat, ρ = [some (.int n), some (.int f), some (.int ((2 ^ f : Nat) : Int))] ∧ f ≤ clog n ∧ k = decide (((2 ^ f : Nat) : Int) < n)) (fun ρ _ => match ρ with
    | [_, some (.int f), _] => clog n - f.toNat
    | _ => 0) ⟨_, [], rfl, rfl, 0, rfl, Nat.zero_le _, rfl⟩ (fun ρ' m k m1 h => ?_) (fun ρ' m m1 h => ?_) fun ρ' m m1 h => ?_
  · obtain ⟨rfl, rfl, f, rfl, _, rfl⟩ := h
    exact pdt_lt (pd_var 2) (pd_var 0)
  · obtain ⟨rfl, rfl, f, rfl, e, hk⟩ := h
    have hf : f < clog n := lt_clog.mp (by have := of_decide_eq_true hk.symm; omega)
    refine pb_aug 2 nd pd_int iop_mul (ok_i (i := ((2 ^ f : Nat) : Int)) (.inr ⟨by decide, by decide⟩)) ?_
    refine pb_aug 1 nd pd_int iop_add (ok_i0 (i := f)) (pb_nil ⟨?_, _, [], rfl, rfl, f + 1, ?_, hf, rfl⟩)
    · show clog n - (((f + 1 : Nat) : Int)).toNat < clog n - ((f : Nat) : Int).toNat
      omega
    · rw [Nat.pow_succ]
      rfl
  · obtain ⟨rfl, rfl, f, rfl, e, hk⟩ := h
    have hf : ¬ f < clog n := fun q => by
      have := of_decide_eq_false hk.symm
      have := lt_clog.mpr q
      omega
    refine pb_ret (pd_var 1) ⟨?_, rfl⟩
    rw [show f = clog n from by omega]
structure MwA where
  n : Nat
  k : Nat
  h : n ≤ 1000 ∧ k ≤ 1000
theorem mw_ok (F : Fx P w K mg base) : Cal P w K mg base 2 (He.fAd K ("most_winnow", none)) ["many", "few"] (spP w T (fun x : MwA => [.int x.n, .int x.k]) (fun x => .int ((2 * (x.k * (clog x.n + 1)) + 2 : Nat) : Int))) := by
  obtain ⟨fd, Fc, hb⟩ := F.fn_most_winnow
  refine ⟨⟨fd, LW.fn_ok Fc sc_mw (fun x => [some (.int x.n), some (.int x.k), none]) (fun x A outer s H E hr => ?_), hb⟩, Fc.kp⟩
  obtain ⟨n, k, h1, h2⟩ := x
  have nd := sc_mw.nd
  refine pb_set 2 (pd_mul (i := k) (.inl ⟨by omega, by omega⟩) (pd_var 1) (pd_add (pd_cC n (log_ok F) (hr.mono (by decide)) F.glo_logarithm (pdl_1 (pd_var 0)) rfl) pd_int)) nd ?_
  exact pb_ret (pd_add (pd_mul (.inl ⟨by decide, by decide⟩) pd_int (pd_var 2)) pd_int) ⟨rfl, rfl⟩
end
end H65

set_option Elab.async false
set_option linter.all false
set_option maxRecDepth 100000
set_option maxHeartbeats 4000000
/-! k65: Vote. -/
namespace H65
open PySem PySem.Spec PyProof.Rows L2 LW
theorem zipD_map {α β : Type} (f : α → D) (g : β → D) : ∀ (as : List α) (bs : List β), zipD (as.map f) (bs.map g) = (as.zip bs).map fun p => .tup [f p.1, g p.2]
  | [], _ => by cases ‹List β› <;> rfl
  | _ :: _, [] => rfl
  | a :: as, b :: bs => by
    show (.tup [f a, g b] :: zipD (as.map f) (bs.map g) : List D) = _
    rw [zipD_map f g as bs]
    rfl
theorem sc_Vi : FnScope ["self", "many"] ["self", "many"] (defScope s_Vote_init) := ⟨rfl, rfl, rfl, by decide +kernel, rfl, by decide +kernel, by decide +kernel⟩
theorem sc_Vw : FnScope ["self", "worst", "count"] ["self"] (defScope s_Vote_whole_weights) := ⟨rfl, rfl, rfl, by decide +kernel, rfl, by decide +kernel, by decide +kernel⟩
theorem sc_Vg : FnScope ["self", "answers", "yes", "weight", "answer"] ["self", "answers"] (defScope s_Vote_guess) := ⟨rfl, rfl, rfl, by decide +kernel, rfl, by decide +kernel, by decide +kernel⟩
theorem sc_Vs : FnScope ["self", "answers", "right", "guess", "count", "answer"] ["self", "answers", "right"] (defScope s_Vote_see) := ⟨rfl, rfl, rfl, by decide +kernel, rfl, by decide +kernel, by decide +kernel⟩
def voteF (ws : List Int) (m : Int) : List (Str × D) := [("wrong", .lst (ws.map D.int)), ("mistakes", .int m)]
structure VoteA where
  q : Addr
  ws : List Int
  m : Int
  h : 0 < ws.length ∧ ws.length ≤ 1000 ∧ ∀ c ∈ ws, 0 ≤ c ∧ c ≤ 1000
abbrev voteO (C : Addr) (x : VoteA) : Mem := [some (x.q, .obj C (voteF x.ws x.m))]
def wts (ws : List Int) : List Int := ws.map fun c => 2 ^ (lmax ws - c).toNat
def vguess (ws : List Int) (as : List Bool) : Bool := decide ((wts ws).sum ≤ 2 * sumIf ((wts ws).zip as) (·.2) (·.1))
structure NewA where
  q : Addr
  n : Int
  h : 1 ≤ n ∧ n ≤ 1000
section
variable {P : Program} {w : World} {K : PySem.W.Frag} {mg : Str → Option Value} {base : Heap} {T : List Addr}
theorem flat_rep {α : Type} (x : α) : ∀ n : Nat, (List.replicate n [x]).flatten = List.replicate n x
  | 0 => rfl
  | n + 1 => by rw [List.replicate_succ, List.flatten_cons, flat_rep x n, List.replicate_succ]; rfl
theorem Vi_ok (F : Fx P w K mg base) : Cal P w K mg base 1 (He.fAd K ("Vote", some "__init__")) ["self", "many"] (spC w T (fun x : NewA => [.ref x.q, .int x.n]) (fun x => [some (x.q, .obj (He.ga K "Vote") [])]) (fun x d m => d = .non ∧ m = [some (x.q, .obj (He.ga K "Vote") (voteF (List.replicate x.n.toNat 0) 0))])) := by
  obtain ⟨fd, Fc, hb⟩ := F.fn_Vote_init
  refine ⟨⟨fd, LW.fn_ok Fc sc_Vi (fun x => [some (.ref x.q), some (.int x.n)]) (fun x A outer s H E hr => ?_), hb⟩, Fc.kp⟩
  obtain ⟨q, n, h1, h2⟩ := x
  refine pb_ifno (pdt_cast (pdt_lt (i := n) (pd_var 1) pd_int) (decide_eq_false (by omega))) ?_
  refine pb_fld 0 (pd_repL (k := n) LV.dat (by omega) (by omega) (by show 1 * n.toNat ≤ 16777216; omega) (pd_lst (pdl_1 pd_int)) (pd_var 1)) (fun m => pd_var 0) F.cls_Vote F.noat_Vote_wrong ?_
  refine pb_fld 0 pd_int (fun m => pd_var 0) F.cls_Vote F.noat_Vote_mistakes (pb_nil ⟨rfl, ?_⟩)
  rw [flat_rep]
  show [some (q, Ob.obj _ [("wrong", D.lst (List.replicate n.toNat (.int 0))), ("mistakes", .int 0)])] = [some (q, Ob.obj _ [("wrong", D.lst ((List.replicate n.toNat (0 : Int)).map D.int)), ("mistakes", .int 0)])]
  rw [List.map_replicate]
theorem Vw_ok (F : Fx P w K mg base) : Cal P w K mg base 2 (He.fAd K ("Vote", some "whole_weights")) ["self"] (spC w T (fun x : VoteA => [.ref x.q]) (voteO (He.ga K "Vote")) (fun x d m => d = .tup ((wts x.ws).map D.int) ∧ m = voteO (He.ga K "Vote") x)) := by
  obtain ⟨fd, Fc, hb⟩ := F.fn_Vote_whole_weights
  refine ⟨⟨fd, LW.fn_ok Fc sc_Vw (fun x => [some (.ref x.q), none, none]) (fun x A outer s H E hr => ?_), hb⟩, Fc.kp⟩
  have nd := sc_Vw.nd
  obtain ⟨g1, g2⟩ := lmax_spec x.h.1
  refine pb_set 1 (pd_maxL (ns := x.ws) LV.dat x.h.1 F.free_max (pd_fld (OV.own 0) F.cls_Vote F.noat_Vote_wrong (pd_var 0))) nd ?_
  refine pb_ret (pd_cast (pd_tupL LV.dat F.free_tuple (pd_lc (own := [("count", 2)]) (xs := x.ws) (kp := fun _ => true) (enc := D.int) (us := fun c => [.int c]) (ed := fun c => .int (2 ^ (lmax x.ws - c).toNat)) (pdi_list LV.dat (pd_fld (OV.own 0) F.cls_Vote F.noat_Vote_wrong (pd_var 0))) nd (blkOk_by (by kernel_rfl)) (fun s H C cl fp => pg_name nd rfl (Or.inl rfl)) (tgt_name 2) (by decide) LV.dat ⟨rfl, fun _ => rfl⟩ (Nat.le_trans x.h.2.1 (by decide))
    (fun c hc s H C cl fp => pdts_nil) fun c hc _ s H C cl fp => ?_)) ?_) ⟨rfl, rfl⟩
  · have e : ((lmax x.ws - c).toNat : Int) = lmax x.ws - c := by have := g2 c hc; omega
    exact pd_cC (⟨2, (lmax x.ws - c).toNat, by decide, by decide, by have := x.h.2.2 c hc; have := x.h.2.2 _ g1; omega⟩ : PowA) (power_ok F) (hr.mono (by decide)) F.glo_power (pdl_cons pd_int (pdl_1 (pd_sub (pd_var 1) (pd_var 2)))) (by show [D.int 2, D.int ((lmax x.ws - c).toNat : Int)] = _; rw [e])
  · rw [filter_yes]
    unfold wts
    rw [List.map_map]
    rfl
structure VgA extends VoteA where
  as : List Bool
  hl : as.length ≤ 1000
theorem Vg_ok (F : Fx P w K mg base) : Cal P w K mg base 3 (He.fAd K ("Vote", some "guess")) ["self", "answers"] (spC w (Tb K) (fun x : VgA => [.ref x.q, .lst (x.as.map D.bl)]) (fun x => voteO (He.ga K "Vote") x.toVoteA) (fun x d m => d = .bl (vguess x.ws x.as) ∧ m = voteO (He.ga K "Vote") x.toVoteA)) := by
  obtain ⟨fd, Fc, hb⟩ := F.fn_Vote_guess
  refine ⟨⟨fd, LW.fn_ok Fc sc_Vg (fun x => [some (.ref x.q), some (.lst (x.as.map D.bl)), none, none, none]) (fun x A outer s H E hr => ?_), hb⟩, Fc.kp⟩
  have nd := sc_Vg.nd
  obtain ⟨tb, hT⟩ := F.tb_Vote_guess
  refine pb_set 2 (pd_sum (k := 1) (own := [("weight", 3), ("answer", 4)]) (xs := (wts x.ws).zip x.as) (kp := (·.2)) (en := (·.1)) (enc := fun p => .tup [.int p.1, .bl p.2]) (us := fun p => [.int p.1, .bl p.2]) (gk_of tb hT hr nd) F.free_sum
    (pdi_zip SV.tup SV.dat F.free_zip (pd_ofR (pdr_mC0 x.toVoteA (Vw_ok F) (hr.mono (by decide)) F.cls_Vote F.meth_Vote_whole_weights (pd_var 0) (OV.own 0) rfl Fram.all) fun d m ⟨m', e1, e2, e3⟩ => ⟨e2, e1.trans e3⟩) (pd_var 1))
    (genB_by (by kernel_rfl)) (fun Ag s H C cl code fp pn hr => pg_tup rfl (pgs_cons (pg_name nd (i := 3) rfl (Or.inl rfl) (.inr rfl)) (pgs_cons (pg_name nd (i := 4) rfl (Or.inl rfl) (.inr rfl)) pgs_nil))) (tgt_tup [3, 4]) (by decide) ⟨.tup, .dat⟩ ⟨zipD_map _ _ _ _, fun _ => rfl⟩
    (fun p hp Ag s H C cl code fp pn hr => pdts_one (pdt_val (pd_var 4))) fun p hp hk Ag s H C cl code fp pn hr => pd_var 3) nd ?_
  refine pb_ret (pd_ge (pd_mul (.inl ⟨by decide, by decide⟩) pd_int (pd_var 2)) (pd_sumT F.free_sum (pd_ofR (pdr_mC0 x.toVoteA (Vw_ok F) (hr.mono (by decide)) F.cls_Vote F.meth_Vote_whole_weights (pd_var 0) (OV.own 0) rfl Fram.all) fun d m ⟨m', e1, e2, e3⟩ => ⟨e2, e1.trans e3⟩))) ⟨rfl, rfl⟩
structure VsA extends VgA where
  r : Bool
  he : as.length = ws.length
def voteW (ws : List Int) (as : List Bool) (r : Bool) : List Int := (ws.zip as).map fun p => p.1 + (if !decide (p.2 = r) then 1 else 0)
def voteM (ws : List Int) (m : Int) (as : List Bool) (r : Bool) : Int := m + (if !decide (vguess ws as = r) then 1 else 0)
theorem Vs_ok (F : Fx P w K mg base) : Cal P w K mg base 4 (He.fAd K ("Vote", some "see")) ["self", "answers", "right"] (spC w (Tb K) (fun x : VsA => [.ref x.q, .lst (x.as.map D.bl), .bl x.r]) (fun x => voteO (He.ga K "Vote") x.toVoteA)
    (fun x d m => d = .bl (vguess x.ws x.as) ∧ m = [some (x.q, .obj (He.ga K "Vote") (voteF (voteW x.ws x.as x.r) (voteM x.ws x.m x.as x.r)))])) := by
  obtain ⟨fd, Fc, hb⟩ := F.fn_Vote_see
  refine ⟨⟨fd, LW.fn_ok Fc sc_Vs (fun x => [some (.ref x.q), some (.lst (x.as.map D.bl)), some (.bl x.r), none, none, none]) (fun x A outer s H E hr => ?_), hb⟩, Fc.kp⟩
  have nd := sc_Vs.nd
  refine pb_ifno (pdt_cast (pdt_neI (pd_lenL LV.dat F.free_len (pd_var 1)) (pd_lenL LV.dat F.free_len (pd_fld (OV.own 0) F.cls_Vote F.noat_Vote_wrong (pd_var 0)))) (by rw [List.length_map, List.length_map, x.he]; simp)) ?_
  refine pb_set 3 (pd_ofR (pdr_mC x.toVgA (Vg_ok F) (hr.mono (by decide)) F.cls_Vote F.meth_Vote_guess (pd_var 0) (OV.own 0) (pdl_1 (pd_var 1)) rfl Fram.all) fun d m ⟨m', e1, e2, e3⟩ => ⟨e2, e1.trans e3⟩) nd ?_
  refine pb_fldaug 0 (pd_var 0) rfl rfl (pd_intB F.free_int (pd_neB (pd_var 3) (pd_var 2))) iop_add (ok_i0 (i := x.m)) F.cls_Vote F.noat_Vote_mistakes (Nat.le_of_ble_eq_true rfl) ?_
  refine pb_fld 0 (pd_lc (own := [("count", 4), ("answer", 5)]) (xs := x.ws.zip x.as) (kp := fun _ => true) (enc := fun p => .tup [.int p.1, .bl p.2]) (us := fun p => [.int p.1, .bl p.2]) (ed := fun p => .int (p.1 + (if !decide (p.2 = x.r) then 1 else 0)))
    (pdi_zip SV.dat SV.dat F.free_zip (pd_fld (OV.own 0) F.cls_Vote F.noat_Vote_wrong (pd_var 0)) (pd_var 1)) nd (blkOk_by (by kernel_rfl)) (fun s H C cl fp => pg_tup rfl (pgs_cons (pg_name nd (i := 4) rfl (Or.inl rfl)) (pgs_cons (pg_name nd (i := 5) rfl (Or.inl rfl)) pgs_nil))) (tgt_tup [4, 5]) (by decide) ⟨.dat, .dat⟩ ⟨zipD_map _ _ _ _, fun _ => rfl⟩
    (Nat.le_trans (by rw [List.length_zip]; exact Nat.min_le_left _ _) (Nat.le_trans x.h.2.1 (by decide))) (fun p hp s H C cl fp => pdts_nil) fun p hp _ s H C cl fp => pd_add (pd_var 4) (pd_intB F.free_int (pd_neB (pd_var 5) (pd_var 2)))) (fun m => pd_var 0) F.cls_Vote F.noat_Vote_wrong ?_
  refine pb_ret (pd_var 3) ⟨rfl, ?_⟩
  rw [filter_yes]
  show [some (x.q, Ob.obj _ [("wrong", D.lst _), ("mistakes", .int _)])] = [some (x.q, Ob.obj _ [("wrong", D.lst ((voteW x.ws x.as x.r).map D.int)), ("mistakes", .int (voteM x.ws x.m x.as x.r))])]
  unfold voteW voteM
  rw [List.map_map]
  rfl
end
end H65

set_option Elab.async false
set_option linter.all false
set_option maxRecDepth 100000
set_option maxHeartbeats 4000000
set_option exponentiation.threshold 100000
/-! k65: Mix. -/
namespace H65
open PySem PySem.Spec PyProof.Rows L2 LW
theorem sc_Mi : FnScope ["self", "many"] ["self", "many"] (defScope s_Mix_init) := ⟨rfl, rfl, rfl, by decide +kernel, rfl, by decide +kernel, by decide +kernel⟩
theorem sc_Ms : FnScope ["self", "losses", "whole", "lost", "part", "loss", "weight", "mine"] ["self", "losses"] (defScope s_Mix_see) := ⟨rfl, rfl, rfl, by decide +kernel, rfl, by decide +kernel, by decide +kernel⟩
theorem sc_ib : FnScope ["mix", "best"] ["mix"] (defScope s_in_bounds) := ⟨rfl, rfl, rfl, by decide +kernel, rfl, by decide +kernel, by decide +kernel⟩
def iN (n : Nat) : Int := n
def mixF (ws ls : List Nat) (lo re : Nat × Nat) : List (Str × D) := [("weights", .lst ((ws.map iN).map D.int)), ("losses", .lst ((ls.map iN).map D.int)), ("loss", frD lo), ("rest", frD re)]
theorem sum_iN : ∀ ws : List Nat, (ws.map iN).sum = ((ws.sum : Nat) : Int)
  | [] => rfl
  | n :: ns => by rw [List.map_cons, List.sum_cons, sum_iN ns, List.sum_cons]; rfl
/-- the weights of those that lose -/
def lostN (ws : List Nat) (ls : List Nat) : Nat := (((ws.zip ls).filter fun p => decide (p.2 = 1)).map (·.1)).sum
theorem lostN_le : ∀ (ws ls : List Nat), lostN ws ls ≤ ws.sum
  | [], ls => by simp [lostN]
  | n :: ns, [] => by simp [lostN]
  | n :: ns, l :: ls => by
    have ih := lostN_le ns ls
    unfold lostN at ih ⊢
    rw [List.zip_cons_cons, List.filter_cons]
    split
    · rw [List.map_cons, List.sum_cons, List.sum_cons]
      omega
    · rw [List.sum_cons]
      omega
theorem lost_eq : ∀ (ws ls : List Nat), sumIf ((ws.map iN).zip (ls.map iN)) (fun p => decide (p.2 = 1)) (·.1) = ((lostN ws ls : Nat) : Int)
  | [], ls => by simp [lostN, sumIf]
  | n :: ns, [] => by simp [lostN, sumIf]
  | n :: ns, l :: ls => by
    have ih := lost_eq ns ls
    unfold lostN sumIf at ih ⊢
    rw [List.map_cons, List.map_cons, List.zip_cons_cons, List.zip_cons_cons, List.filter_cons, List.filter_cons]
    have e : decide (iN l = 1) = decide (l = 1) := by
      unfold iN
      by_cases h : l = 1
      · subst h; rfl
      · rw [decide_eq_false h, decide_eq_false (by omega)]
    simp only [e]
    cases hd : decide (l = 1) with
    | true =>
      rw [if_pos rfl, if_pos rfl, List.map_cons, List.map_cons, List.sum_cons, List.sum_cons, ih]
      rfl
    | false =>
      rw [if_neg Bool.false_ne_true, if_neg Bool.false_ne_true, ih]
structure MixA where
  q : Addr
  ws : List Nat
  ls : List Nat
  lo : Nat × Nat
  re : Nat × Nat
abbrev mixO (C : Addr) (x : MixA) : Mem := [some (x.q, .obj C (mixF x.ws x.ls x.lo x.re))]
structure MsA extends MixA where
  l : List Nat
  hl : l.length = ws.length ∧ ls.length = ws.length ∧ 0 < ws.length ∧ ws.length ≤ 1000
  h01 : ∀ z ∈ l, z = 0 ∨ z = 1
  hw : ∀ z ∈ ws, 0 < z ∧ z < 2 ^ 100
  hb : 0 < lo.2 ∧ 0 < re.2 ∧ lo.1 < 2 ^ 4300 ∧ lo.2 < 2 ^ 4300 ∧ re.1 < 2 ^ 4300 ∧ re.2 < 2 ^ 4300
theorem sum_pos : ∀ {ws : List Nat}, 0 < ws.length → (∀ z ∈ ws, 0 < z) → 0 < ws.sum
  | [], h, _ => absurd h (by decide)
  | n :: ns, _, h => by
    rw [List.sum_cons]
    have := h n List.mem_cons_self
    omega
theorem sum_lt {B : Nat} : ∀ {ws : List Nat}, (∀ z ∈ ws, z < B) → ws.sum ≤ ws.length * B
  | [], _ => by simp
  | n :: ns, h => by
    rw [List.sum_cons, List.length_cons, Nat.succ_mul]
    have h1 := h n List.mem_cons_self
    have h2 := sum_lt (B := B) (ws := ns) fun z hz => h z (List.mem_cons_of_mem _ hz)
    omega
def partN (ws l : List Nat) : Nat × Nat := sml (lostN ws l) ws.sum
theorem sml_le (a b : Nat) : (sml a b).1 ≤ a ∧ (sml a b).2 ≤ b := ⟨Nat.div_le_self _ _, Nat.div_le_self _ _⟩
theorem sml_pos {a b : Nat} (h : 0 < b) : 0 < (sml a b).2 := Nat.div_pos (Nat.gcd_le_right _ h) (Nat.gcd_pos_of_pos_right _ h)
theorem sml_mono {a b : Nat} (h : a ≤ b) : (sml a b).1 ≤ (sml a b).2 := Nat.div_le_div_right h
def restN (re p : Nat × Nat) : Nat × Nat := sml (re.1 * (2 * p.2 - p.1)) (re.2 * 2 * p.2)
def mixW (ws l : List Nat) : List Nat := (ws.zip l).map fun p => if decide (p.2 = 1) then p.1 else 2 * p.1
def mixL (ls l : List Nat) : List Nat := (ls.zip l).map fun p => p.1 + p.2
theorem mixW_eq : ∀ (ws l : List Nat), ((mixW ws l).map iN).map D.int = ((ws.map iN).zip (l.map iN)).map fun p => if decide (p.2 = 1) = true then D.int p.1 else D.int (2 * p.1)
  | [], l => by simp [mixW]
  | n :: ns, [] => by simp [mixW]
  | n :: ns, z :: zs => by
    have ih := mixW_eq ns zs
    unfold mixW at ih ⊢
    rw [List.map_cons, List.map_cons, List.zip_cons_cons, List.zip_cons_cons, List.map_cons, List.map_cons, List.map_cons, List.map_cons, ← ih]
    have e : decide (iN z = 1) = decide (z = 1) := by
      unfold iN
      by_cases h : z = 1
      · subst h; rfl
      · rw [decide_eq_false h, decide_eq_false (by omega)]
    simp only [e]
    cases decide (z = 1) <;> rfl
theorem mixL_eq : ∀ (ws l : List Nat), ((mixL ws l).map iN).map D.int = ((ws.map iN).zip (l.map iN)).map fun p => D.int (p.1 + p.2)
  | [], l => by simp [mixL]
  | n :: ns, [] => by simp [mixL]
  | n :: ns, z :: zs => by
    have ih := mixL_eq ns zs
    unfold mixL at ih ⊢
    rw [List.map_cons, List.map_cons, List.zip_cons_cons, List.zip_cons_cons, List.map_cons, List.map_cons, List.map_cons, List.map_cons, ← ih]
    rfl
/-- after a round -/
def mixS (C : Addr) (x : MsA) : Mem := [some (x.q, .obj C (mixF (mixW x.ws x.l) (mixL x.ls x.l) (addF x.lo (partN x.ws x.l)) (restN x.re (partN x.ws x.l))))]
section
variable {P : Program} {w : World} {K : PySem.W.Frag} {mg : Str → Option Value} {base : Heap} {T : List Addr}
theorem Mi_ok (F : Fx P w K mg base) : Cal P w K mg base 1 (He.fAd K ("Mix", some "__init__")) ["self", "many"] (spC w T (fun x : NewA => [.ref x.q, .int x.n]) (fun x => [some (x.q, .obj (He.ga K "Mix") [])]) (fun x d m => d = .non ∧ m = [some (x.q, .obj (He.ga K "Mix") (mixF (List.replicate x.n.toNat 1) (List.replicate x.n.toNat 0) (0, 1) (1, 1)))])) := by
  obtain ⟨fd, Fc, hb⟩ := F.fn_Mix_init
  refine ⟨⟨fd, LW.fn_ok Fc sc_Mi (fun x => [some (.ref x.q), some (.int x.n)]) (fun x A outer s H E hr => ?_), hb⟩, Fc.kp⟩
  obtain ⟨q, n, h1, h2⟩ := x
  refine pb_ifno (pdt_cast (pdt_lt (i := n) (pd_var 1) pd_int) (decide_eq_false (by omega))) ?_
  refine pb_fld 0 (pd_repL (k := n) LV.dat (by omega) (by omega) (by show 1 * n.toNat ≤ 16777216; omega) (pd_lst (pdl_1 pd_int)) (pd_var 1)) (fun m => pd_var 0) F.cls_Mix F.noat_Mix_weights ?_
  refine pb_fld 0 (pd_repL (k := n) LV.dat (by omega) (by omega) (by show 1 * n.toNat ≤ 16777216; omega) (pd_lst (pdl_1 pd_int)) (pd_var 1)) (fun m => pd_var 0) F.cls_Mix F.noat_Mix_losses ?_
  refine pb_fld 0 (pd_tup (pdl_cons pd_int (pdl_1 pd_int))) (fun m => pd_var 0) F.cls_Mix F.noat_Mix_loss ?_
  refine pb_fld 0 (pd_tup (pdl_cons pd_int (pdl_1 pd_int))) (fun m => pd_var 0) F.cls_Mix F.noat_Mix_rest (pb_nil ⟨rfl, ?_⟩)
  rw [flat_rep, flat_rep]
  show [some (q, Ob.obj _ [("weights", D.lst (List.replicate n.toNat (.int 1))), ("losses", D.lst (List.replicate n.toNat (.int 0))), ("loss", _), ("rest", _)])] =
    [some (q, Ob.obj _ [("weights", D.lst (((List.replicate n.toNat 1).map iN).map D.int)), ("losses", D.lst (((List.replicate n.toNat 0).map iN).map D.int)), ("loss", frD (0, 1)), ("rest", frD (1, 1))])]
  rw [List.map_replicate, List.map_replicate, List.map_replicate, List.map_replicate]
  rfl
theorem any_no : ∀ (l : List Nat), (∀ z ∈ l, z = 0 ∨ z = 1) → ((l.map iN).any fun x => true && !([0, 1] : List Int).contains x) = false
  | [], _ => rfl
  | z :: r, h => by
    rw [List.map_cons, List.any_cons, any_no r fun y hy => h y (List.mem_cons_of_mem _ hy)]
    rcases h z List.mem_cons_self with e | e <;> subst e <;> rfl
theorem Ms_ok (F : Fx P w K mg base) : Cal P w K mg base 4 (He.fAd K ("Mix", some "see")) ["self", "losses"] (spC w (Tb K) (fun x : MsA => [.ref x.q, .lst ((x.l.map iN).map D.int)]) (fun x => mixO (He.ga K "Mix") x.toMixA) (fun x d m => d = frD (partN x.ws x.l) ∧ m = mixS (He.ga K "Mix") x)) := by
  obtain ⟨fd, Fc, hb⟩ := F.fn_Mix_see
  refine ⟨⟨fd, LW.fn_ok Fc sc_Ms (fun x => [some (.ref x.q), some (.lst ((x.l.map iN).map D.int)), none, none, none, none, none, none]) (fun x A outer s H E hr => ?_), hb⟩, Fc.kp⟩
  have nd := sc_Ms.nd
  obtain ⟨tb, hT⟩ := F.tb_Mix_see
  have gk := gk_of (P := P) (w := w) (H := H) (E := E) (outer := outer) (s := s) tb hT hr nd
  have wp := sum_pos x.hl.2.2.1 fun z hz => (x.hw z hz).1
  have wl : x.ws.sum < 2 ^ 111 := by
    have q := sum_lt (B := 2 ^ 100) fun z hz => (x.hw z hz).2
    have q2 : x.ws.length * 2 ^ 100 ≤ 1000 * 2 ^ 100 := Nat.mul_le_mul_right _ x.hl.2.2.2
    have q3 : 1000 * 2 ^ 100 < 2 ^ 111 := by decide
    omega
  refine pb_ifno (pdt_cast (pdt_or (k := false) (l := false) (pdt_cast (pdt_neI (pd_lenL LV.dat F.free_len (pd_var 1)) (pd_lenL LV.dat F.free_len (pd_fld (OV.own 0) F.cls_Mix F.noat_Mix_weights (pd_var 0)))) (by simp [x.hl.1]))
    fun _ => pdt_val (pd_cast (pd_any (k := 2) (own := [("loss", 5)]) (xs := x.l.map iN) (kp := fun _ => true) (el := fun z => !([0, 1] : List Int).contains z) (enc := D.int) (us := fun z => [.int z]) gk F.free_any (pdi_list LV.dat (pd_var 1)) (genB_by (by kernel_rfl)) (fun Ag s H C cl code fp pn hr => pg_name nd rfl (Or.inl rfl) (.inr rfl)) (tgt_name 5) (by decide) LV.dat ⟨rfl, fun _ => rfl⟩
      (fun z hz Ag s H C cl code fp pn hr => pdts_nil) fun z hz _ Ag s H C cl code fp pn hr => pd_ninT (ns := [0, 1]) (pd_var 5) (pd_tup (pdl_cons pd_int (pdl_1 pd_int)))) (by rw [any_no _ x.h01]))) rfl) ?_
  refine pb_par 2 3 (pdl_cons (pd_sumL LV.dat F.free_sum (pd_fld (OV.own 0) F.cls_Mix F.noat_Mix_weights (pd_var 0))) (pdl_1 (pd_sum (k := 2) (own := [("weight", 6), ("loss", 5)]) (xs := (x.ws.map iN).zip (x.l.map iN)) (kp := fun p => decide (p.2 = 1)) (en := (·.1)) (enc := fun p => .tup [.int p.1, .int p.2]) (us := fun p => [.int p.1, .int p.2]) gk F.free_sum
    (pdi_zip SV.dat SV.dat F.free_zip (pd_fld (OV.own 0) F.cls_Mix F.noat_Mix_weights (pd_var 0)) (pd_var 1)) (genB_by (by kernel_rfl)) (fun Ag s H C cl code fp pn hr => pg_tup rfl (pgs_cons (pg_name nd (i := 6) rfl (Or.inl rfl) (.inr rfl)) (pgs_cons (pg_name nd (i := 5) rfl (Or.inl rfl) (.inr rfl)) pgs_nil))) (tgt_tup [6, 5]) (by decide) ⟨.dat, .dat⟩ ⟨zipD_map _ _ _ _, fun _ => rfl⟩
    (fun p hp Ag s H C cl code fp pn hr => pdts_one (pdt_eqI (pd_var 5) pd_int)) fun p hp hk Ag s H C cl code fp pn hr => pd_var 6))) nd ?_
  rw [sum_iN, lost_eq]
  refine pb_set 4 (pd_cC (⟨lostN x.ws x.l, x.ws.sum, wp, Nat.lt_of_lt_of_le wl (Nat.pow_le_pow_right (by decide) (by decide))⟩ : SmA) (small_ok F) (hr.mono (by decide)) F.glo_small (pdl_cons (pd_var 3) (pdl_1 (pd_var 2))) rfl) nd ?_
  have hp : partN x.ws x.l = sml (lostN x.ws x.l) x.ws.sum := rfl
  have p1 : (partN x.ws x.l).1 < 2 ^ 111 := Nat.lt_of_le_of_lt (Nat.le_trans (sml_le _ _).1 (lostN_le _ _)) wl
  have p2 : (partN x.ws x.l).2 < 2 ^ 111 := Nat.lt_of_le_of_lt (sml_le _ _).2 wl
  have p3 : (partN x.ws x.l).1 ≤ (partN x.ws x.l).2 := sml_mono (lostN_le _ _)
  have p4 : 0 < (partN x.ws x.l).2 := sml_pos wp
  have hb := x.hb
  have up : ∀ {n : Nat}, n < 2 ^ 4300 → n < 2 ^ 4400 := fun h => Nat.lt_of_lt_of_le h (Nat.pow_le_pow_right (by decide) (by decide))
  have up2 : ∀ {n : Nat}, n < 2 ^ 111 → n < 2 ^ 4400 := fun h => Nat.lt_of_lt_of_le h (Nat.pow_le_pow_right (by decide) (by decide))
  refine pb_fld 0 (pd_cC (⟨x.lo, partN x.ws x.l, hb.1, p4, up hb.2.2.1, up hb.2.2.2.1, up2 p1, up2 p2⟩ : AdA) (added_ok F) (hr.mono (by decide)) F.glo_added (pdl_cons (pd_fld (OV.own 0) F.cls_Mix F.noat_Mix_loss (pd_var 0)) (pdl_1 (pd_var 4))) rfl) (fun m => pd_var 0) F.cls_Mix F.noat_Mix_loss ?_
  have q1 : 2 * (partN x.ws x.l).2 - (partN x.ws x.l).1 < 2 ^ 112 := by
    have : (2 : Nat) ^ 112 = 2 * 2 ^ 111 := by rw [Nat.pow_succ, Nat.mul_comm]
    omega
  have q2 : x.re.2 * 2 < 2 ^ 4301 := by
    rw [Nat.pow_succ]
    exact Nat.mul_lt_mul_of_pos_right hb.2.2.2.2.2 (by decide)
  have big : ∀ {n k : Nat}, n < 2 ^ k → k ≤ 40000 → n < 2 ^ 40000 := fun h h2 => Nat.lt_of_lt_of_le h (Nat.pow_le_pow_right (by decide) h2)
  have q3 : x.re.2 * 2 * (partN x.ws x.l).2 < 2 ^ 9000 := Nat.lt_of_lt_of_le (mul_lt_pow q2 p2) (Nat.pow_le_pow_right (by decide) (by decide))
  have e1 : (((2 * (partN x.ws x.l).2 - (partN x.ws x.l).1 : Nat)) : Int) = 2 * ((partN x.ws x.l).2 : Int) - ((partN x.ws x.l).1 : Int) := by omega
  refine pb_fld 0 (pd_cC (ds := [.int ((x.re.1 * (2 * (partN x.ws x.l).2 - (partN x.ws x.l).1) : Nat) : Int), .int ((x.re.2 * 2 * (partN x.ws x.l).2 : Nat) : Int)]) (⟨x.re.1 * (2 * (partN x.ws x.l).2 - (partN x.ws x.l).1), x.re.2 * 2 * (partN x.ws x.l).2, Nat.mul_pos (Nat.mul_pos hb.2.1 (by decide)) p4, q3⟩ : SmA) (small_ok F) (hr.mono (by decide)) F.glo_small
    (pdl_cons (pd_mulW (i := x.re.1) (j := ((2 * (partN x.ws x.l).2 - (partN x.ws x.l).1 : Nat) : Int)) (mulW_of (big hb.2.2.2.2.1 (by decide)) (big q1 (by decide))) (pd_ixT rfl (pd_fld (OV.own 0) F.cls_Mix F.noat_Mix_rest (pd_var 0)) pd_int)
      (pd_cast (pd_sub (i := 2 * ((partN x.ws x.l).2 : Int)) (j := ((partN x.ws x.l).1 : Int)) (pd_mul (.inl ⟨by decide, by decide⟩) pd_int (pd_ixT rfl (pd_var 4) pd_int)) (pd_ixT rfl (pd_var 4) pd_int)) (by rw [e1])))
    (pdl_1 (pd_mulW (i := ((x.re.2 * 2 : Nat) : Int)) (j := ((partN x.ws x.l).2 : Int)) (mulW_of (big q2 (by decide)) (big p2 (by decide))) (pd_mul (i := x.re.2) (.inr ⟨by decide, by decide⟩) (pd_ixT rfl (pd_fld (OV.own 0) F.cls_Mix F.noat_Mix_rest (pd_var 0)) pd_int) pd_int) (pd_ixT rfl (pd_var 4) pd_int)))) rfl) (fun m => pd_var 0) F.cls_Mix F.noat_Mix_rest ?_
  have zl : ((x.ws.map iN).zip (x.l.map iN)).length ≤ 16000000 := by
    rw [List.length_zip, List.length_map, List.length_map]
    have := x.hl
    omega
  have zl2 : ((x.ls.map iN).zip (x.l.map iN)).length ≤ 16000000 := by
    rw [List.length_zip, List.length_map, List.length_map]
    have := x.hl
    omega
  refine pb_fld 0 (pd_lc (own := [("weight", 6), ("loss", 5)]) (xs := (x.ws.map iN).zip (x.l.map iN)) (kp := fun _ => true) (enc := fun p => .tup [.int p.1, .int p.2]) (us := fun p => [.int p.1, .int p.2]) (ed := fun p => if decide (p.2 = 1) = true then .int p.1 else .int (2 * p.1))
    (pdi_zip SV.dat SV.dat F.free_zip (pd_fld (OV.own 0) F.cls_Mix F.noat_Mix_weights (pd_var 0)) (pd_var 1)) nd (blkOk_by (by kernel_rfl)) (fun s H C cl fp => pg_tup rfl (pgs_cons (pg_name nd (i := 6) rfl (Or.inl rfl)) (pgs_cons (pg_name nd (i := 5) rfl (Or.inl rfl)) pgs_nil))) (tgt_tup [6, 5]) (by decide) ⟨.dat, .dat⟩ ⟨zipD_map _ _ _ _, fun _ => rfl⟩
    zl (fun p hp s H C cl fp => pdts_nil) fun p hp _ s H C cl fp => pd_if (pdt_eqI (pd_var 5) pd_int) (fun _ => pd_var 6) fun _ => pd_mul (.inl ⟨by decide, by decide⟩) pd_int (pd_var 6)) (fun m => pd_var 0) F.cls_Mix F.noat_Mix_weights ?_
  refine pb_fld 0 (pd_lc (own := [("mine", 7), ("loss", 5)]) (xs := (x.ls.map iN).zip (x.l.map iN)) (kp := fun _ => true) (enc := fun p => .tup [.int p.1, .int p.2]) (us := fun p => [.int p.1, .int p.2]) (ed := fun p => .int (p.1 + p.2))
    (pdi_zip SV.dat SV.dat F.free_zip (pd_fld (OV.own 0) F.cls_Mix F.noat_Mix_losses (pd_var 0)) (pd_var 1)) nd (blkOk_by (by kernel_rfl)) (fun s H C cl fp => pg_tup rfl (pgs_cons (pg_name nd (i := 7) rfl (Or.inl rfl)) (pgs_cons (pg_name nd (i := 5) rfl (Or.inl rfl)) pgs_nil))) (tgt_tup [7, 5]) (by decide) ⟨.dat, .dat⟩ ⟨zipD_map _ _ _ _, fun _ => rfl⟩
    zl2 (fun p hp s H C cl fp => pdts_nil) fun p hp _ s H C cl fp => pd_add (pd_var 7) (pd_var 5)) (fun m => pd_var 0) F.cls_Mix F.noat_Mix_losses ?_
  refine pb_ret (pd_var 4) ⟨rfl, ?_⟩
  rw [filter_yes, filter_yes]
  show [some (x.q, Ob.obj _ [("weights", D.lst _), ("losses", D.lst _), ("loss", _), ("rest", _)])] = [some (x.q, Ob.obj _ [("weights", D.lst (((mixW x.ws x.l).map iN).map D.int)), ("losses", D.lst (((mixL x.ls x.l).map iN).map D.int)), ("loss", frD (addF x.lo (partN x.ws x.l))), ("rest", frD (restN x.re (partN x.ws x.l)))])]
  rw [mixW_eq, mixL_eq]
  rfl
structure IbA extends MixA where
  h : 0 < ls.length ∧ ls.length ≤ 1000 ∧ (∀ z ∈ ls, z ≤ 1000) ∧ re.1 < 2 ^ 9000
/-- the least loss -/
def leastN (ls : List Nat) : Nat := (lmin (ls.map iN)).toNat
theorem ib_ok (F : Fx P w K mg base) : Cal P w K mg base 2 (He.fAd K ("in_bounds", none)) ["mix"] (spC w T (fun x : IbA => [.ref x.q]) (fun x => mixO (He.ga K "Mix") x.toMixA) (fun x d m => d = .bl (decide ((x.re.2 : Int) ≤ x.ls.length * 2 ^ leastN x.ls * x.re.1)) ∧ m = mixO (He.ga K "Mix") x.toMixA)) := by
  obtain ⟨fd, Fc, hb⟩ := F.fn_in_bounds
  refine ⟨⟨fd, LW.fn_ok Fc sc_ib (fun x => [some (.ref x.q), none]) (fun x A outer s H E hr => ?_), hb⟩, Fc.kp⟩
  have nd := sc_ib.nd
  have hl : 0 < (x.ls.map iN).length := by rw [List.length_map]; exact x.h.1
  obtain ⟨z1, z2⟩ := lmin_spec hl
  obtain ⟨k, hk, ek⟩ := List.mem_map.mp z1
  have em : lmin (x.ls.map iN) = ((leastN x.ls : Nat) : Int) := by
    unfold leastN
    rw [← ek]
    rfl
  have hlt : leastN x.ls ≤ 1000 := by
    unfold leastN
    rw [← ek]
    exact x.h.2.2.1 k hk
  refine pb_set 1 (pd_cast (pd_minL LV.dat hl F.free_min (pd_fld (OV.own 0) F.cls_Mix F.noat_Mix_losses (pd_var 0))) (by rw [em])) nd ?_
  have b1 : ((x.ls.length * 2 ^ leastN x.ls : Nat)) < 2 ^ 40000 := by
    refine Nat.lt_of_lt_of_le (mul_lt_pow (i := 10) (j := 1001) (Nat.lt_of_le_of_lt x.h.2.1 (by decide)) (Nat.pow_lt_pow_right (by decide) (by omega))) (Nat.pow_le_pow_right (by decide) (by decide))
  have hcast : ((x.ls.length * 2 ^ leastN x.ls : Nat) : Int) = (x.ls.length : Int) * 2 ^ leastN x.ls := by
    rw [Int.natCast_mul, Int.natCast_pow]
    rfl
  refine pb_ret (pd_cast (pd_le (i := (x.re.2 : Int)) (j := ((x.ls.length * 2 ^ leastN x.ls : Nat) : Int) * x.re.1) (pd_ixT rfl (pd_fld (OV.own 0) F.cls_Mix F.noat_Mix_rest (pd_var 0)) pd_int)
    (pd_mulW (i := ((x.ls.length * 2 ^ leastN x.ls : Nat) : Int)) (j := x.re.1) (mulW_of b1 (Nat.lt_of_lt_of_le x.h.2.2.2 (Nat.pow_le_pow_right (by decide) (by decide))))
      (pd_cast (pd_mul (i := (x.ls.length : Int)) (j := 2 ^ leastN x.ls) (.inl ⟨by omega, by have := x.h.2.1; omega⟩) (pd_cast (pd_lenL LV.dat F.free_len (pd_fld (OV.own 0) F.cls_Mix F.noat_Mix_losses (pd_var 0))) (by rw [List.length_map, List.length_map]))
        (pd_cC (val := fun x : PowA => .int (x.b ^ x.c)) ⟨2, leastN x.ls, by decide, by decide, hlt⟩ (power_ok F) (hr.mono (by decide)) F.glo_power (pdl_cons pd_int (pdl_1 (pd_var 1))) rfl)) (by rw [hcast])) (pd_ixT rfl (pd_fld (OV.own 0) F.cls_Mix F.noat_Mix_rest (pd_var 0)) pd_int))) (by rw [hcast])) ⟨rfl, rfl⟩
end
end H65

set_option Elab.async false
set_option linter.all false
set_option maxRecDepth 100000
set_option maxHeartbeats 4000000
/-! k65: And, Learner. -/
namespace H65
open PySem PySem.Spec PyProof.Rows L2 LW
theorem sc_Ai : FnScope ["self", "many", "bits"] ["self", "many", "bits"] (defScope s_And_init) := ⟨rfl, rfl, rfl, by decide +kernel, rfl, by decide +kernel, by decide +kernel⟩
theorem sc_Ah : FnScope ["self", "point", "place", "bit"] ["self", "point"] (defScope s_And_has) := ⟨rfl, rfl, rfl, by decide +kernel, rfl, by decide +kernel, by decide +kernel⟩
theorem sc_Aw : FnScope ["self", "point", "place", "bit"] ["self", "point"] (defScope s_And_widened) := ⟨rfl, rfl, rfl, by decide +kernel, rfl, by decide +kernel, by decide +kernel⟩
theorem sc_Ac : FnScope ["self", "other", "place", "bit"] ["self", "other"] (defScope s_And_covers) := ⟨rfl, rfl, rfl, by decide +kernel, rfl, by decide +kernel, by decide +kernel⟩
theorem sc_Li : FnScope ["self", "many"] ["self", "many"] (defScope s_Learner_init) := ⟨rfl, rfl, rfl, by decide +kernel, rfl, by decide +kernel, by decide +kernel⟩
theorem sc_Ls : FnScope ["self", "point", "take", "guess"] ["self", "point", "take"] (defScope s_Learner_see) := ⟨rfl, rfl, rfl, by decide +kernel, rfl, by decide +kernel, by decide +kernel⟩
abbrev Bits := List (Int × Int)
def eB (p : Int × Int) : Int × D := (p.1, .int p.2)
def bK (ps : Bits) : List (D × D) := (ps.map eB).map eI
def bD : Option Bits → D
  | none => .non
  | some ps => .dic (bK ps)
def andF (n : Int) (b : Option Bits) : List (Str × D) := [("many", .int n), ("bits", bD b)]
abbrev andD (C : Addr) (n : Int) (b : Option Bits) : D := .obj C (andF n b)
def pairD (p : Int × Int) : D := .tup [.int p.1, .int p.2]
theorem bK_pr (ps : Bits) : (bK ps).map LW.prD = ps.map pairD := by
  unfold bK
  rw [List.map_map, List.map_map]
  rfl
theorem dput_new {kvs : List (D × D)} {k v : D} (h : k.nk ∉ kvs.map fun p => p.1.nk) : dput kvs k v = kvs ++ [(k, v)] := by
  unfold dput
  rw [if_neg]
  intro q
  obtain ⟨p, hp, e⟩ := List.any_eq_true.mp q
  exact h (List.mem_map.mpr ⟨p, hp, of_decide_eq_true e⟩)
theorem dmrg_app : ∀ {more kvs : List (D × D)}, ((kvs ++ more).map fun p => p.1.nk).Nodup → dmrg kvs more = kvs ++ more
  | [], kvs, _ => (List.append_nil _).symm
  | x :: r, kvs, h => by
    have h1 : x.1.nk ∉ kvs.map fun p => p.1.nk := fun q => by
      rw [List.map_append, List.nodup_append] at h
      exact h.2.2 _ q _ (by rw [List.map_cons]; exact List.mem_cons_self) rfl
    show dmrg (dput kvs x.1 x.2) r = _
    rw [dput_new h1]
    have h2 : ((kvs ++ [(x.1, x.2)] ++ r).map fun p => p.1.nk).Nodup := by
      rw [List.append_assoc]
      exact h
    rw [dmrg_app h2, List.append_assoc]
    rfl
theorem nks_bK (ps : Bits) : ((bK ps).map fun p => p.1.nk) = (ps.map (·.1)).map fun i => some (NestedKey.num i) := by
  unfold bK
  rw [List.map_map, List.map_map, List.map_map]
  rfl
theorem dmrg_bK {ps : Bits} (h : (ps.map (·.1)).Nodup) : dmrg [] (bK ps) = bK ps := by
  have q := dmrg_app (more := bK ps) (kvs := []) (by
    rw [List.nil_append, nks_bK]
    exact List.pairwise_map.mpr (h.imp fun {a b} hne e => hne (by injection e with e; injection e)))
  rw [List.nil_append] at q
  exact q
def ptAt (pt : List Int) (k : Int) : Int := pt.getD k.toNat 0
def hasF (b : Option Bits) (pt : List Int) : Bool := match b with
  | none => false
  | some ps => ps.all fun p => decide (ptAt pt p.1 = p.2)
def iotaB (pt : List Int) : Bits := (List.range pt.length).map fun (i : Nat) => ((i : Int), pt.getD i 0)
def wideF (b : Option Bits) (pt : List Int) : Bits := match b with
  | none => iotaB pt
  | some ps => ps.filter fun p => decide (ptAt pt p.1 = p.2)
/-- bits that fit n places -/
structure BOk (n : Nat) (b : Option Bits) : Prop where
  h : ∀ ps, b = some ps → (ps.map (·.1)).Nodup ∧ ps.length ≤ 1000 ∧ ∀ p ∈ ps, 0 ≤ p.1 ∧ p.1 < n
theorem iota_bK (pt : List Int) : (iota (pt.map D.int)).map eI = bK (iotaB pt) := by
  unfold iota bK iotaB
  rw [List.map_map, List.map_map, List.map_map, List.length_map]
  refine List.ext_getElem? fun i => ?_
  rw [List.getElem?_map, List.getElem?_map]
  by_cases hi : i < pt.length
  · have e1 : ((List.range pt.length).zip (pt.map D.int))[i]? = some (i, D.int pt[i]) := List.getElem?_zip_eq_some.mpr ⟨List.getElem?_range hi, by rw [List.getElem?_map, List.getElem?_eq_getElem hi]; rfl⟩
    rw [e1, List.getElem?_range hi]
    show some (D.int (i : Nat), D.int pt[i]) = some (D.int (i : Nat), D.int (pt.getD i 0))
    rw [List.getD_eq_getElem?_getD, List.getElem?_eq_getElem hi]
    rfl
  · rw [List.getElem?_eq_none (by simp; omega), List.getElem?_eq_none (by simp; omega)]
    rfl
theorem iotaB_keys (pt : List Int) : ((iotaB pt).map (·.1)).Nodup := by
  unfold iotaB
  rw [List.map_map]
  exact List.pairwise_map.mpr ((List.nodup_range (n := pt.length)).imp fun {a b} hne e => hne (by
    have e : ((a : Nat) : Int) = ((b : Nat) : Int) := e
    omega))
theorem ptAt_ix {pt : List Int} {k : Int} (h0 : 0 ≤ k) (h1 : k < pt.length) : L2.atI (pt.map D.int) k = some (.int (ptAt pt k)) := by
  refine atI_of h0 ?_
  have hl : k.toNat < pt.length := by omega
  rw [List.getElem?_map, List.getElem?_eq_getElem hl]
  unfold ptAt
  rw [List.getD_eq_getElem?_getD, List.getElem?_eq_getElem hl]
  rfl
/-- And's arguments: what bits is, what becomes of it -/
structure AndA where
  q : Addr
  n : Int
  a : D
  b : Option Bits
  h : (a = .non ∧ b = none) ∨ ∃ ps, b = some ps ∧ (ps.map (·.1)).Nodup ∧ ps.length ≤ 1000 ∧ (a = .dic (bK ps) ∨ a = .lst (ps.map pairD))
structure HasA where
  n : Int
  b : Option Bits
  pt : List Int
  h : BOk pt.length b ∧ pt.length ≤ 1000
section
variable {P : Program} {w : World} {K : PySem.W.Frag} {mg : Str → Option Value} {base : Heap} {T : List Addr}
abbrev spAi (w : World) (T : List Addr) (C : Addr) : Sp := spC w T (fun x : AndA => [.ref x.q, .int x.n, x.a]) (fun x => [some (x.q, .obj C [])]) (fun x d m => d = .non ∧ m = [some (x.q, .obj C (andF x.n x.b))])
theorem Ai_ok (F : Fx P w K mg base) : ∃ fd, FnOk P w K mg base CX0 1 (He.fAd K ("And", some "__init__")) fd ["self", "many", "bits"] (spAi w T (He.ga K "And")) ∧ Binds K fd ["self", "many", "bits"] [] ∧ ∃ dU, Vals [V.non] dU ∧ Binds K fd ["self", "many", "bits"] dU := by
  obtain ⟨fd, Fd, Fc⟩ := F.fn_And_init
  have b1 := FunD.binds1 (ps := ["self", "many", "bits"]) Fd 3 1 (by exact fun z => by cases z) rfl fun T kV doc pm an cdv ct us its h1 h2 => match us, its, h1, h2 with
    | [a, b, c], [d], _, _ => ⟨_, by rfl, rfl⟩
  have b2 := FunD.binds1 (ps := ["self", "many", "bits"]) Fd 2 0 (by exact fun z => by cases z) rfl fun T kV doc pm an cdv ct us its h1 h2 => match us, its, h1, h2 with
    | [a, b], [d], _, _ => ⟨_, by rfl, rfl⟩
  obtain ⟨d1, v1, b1⟩ := b1
  obtain ⟨d2, v2, b2⟩ := b2
  cases v1
  refine ⟨fd, LW.fn_ok Fc sc_Ai (fun x => [some (.ref x.q), some (.int x.n), some x.a]) (fun x A outer s H E hr => ?_), b1, d2, v2, b2⟩
  obtain ⟨q, n, a, b, h⟩ := x
  refine pb_fld 0 (pd_var 1) (fun m => pd_var 0) F.cls_And F.noat_And_many ?_
  refine pb_fld (d := bD b) (fs := [("many", .int n)]) (M1 := [some (q, .obj (He.ga K "And") [("many", .int n)])]) 0 ?_ (fun m => pd_var 0) F.cls_And F.noat_And_bits (pb_nil ⟨rfl, rfl⟩)
  rcases h with ⟨rfl, rfl⟩ | ⟨ps, rfl, h1, h2, rfl | rfl⟩
  · exact pd_ifc (k := true) (pdt_cast (pdt_isN (pd_var 2)) rfl) (fun _ => pd_non) fun h => by cases h
  · exact pd_ifc (k := false) (pdt_cast (pdt_isN (pd_var 2)) rfl) (fun h => by cases h) fun _ => pd_dictD (ps := ps.map eB) DV.dat F.free_dict (pd_var 2)
  · refine pd_ifc (k := false) (pdt_cast (pdt_isN (pd_var 2)) rfl) (fun h => by cases h) fun _ => ?_
    exact pd_cast (pd_dictI (ps := ps.map eB) (da := .lst (ps.map pairD)) (by rw [← bK_pr]; exact LV.dat) (by rw [List.length_map]; exact Nat.le_trans h2 (by decide)) F.free_dict (pd_var 2)) (by show D.dic (dmrg [] (bK ps)) = D.dic (bK ps); rw [dmrg_bK h1])
theorem items_eq (ps : Bits) : (bK ps).map LW.prD = ps.map fun p => D.tup [.int p.1, .int p.2] := bK_pr ps
theorem Ah_ok (F : Fx P w K mg base) : Cal P w K mg base 2 (He.fAd K ("And", some "has")) ["self", "point"] (spP w (Tb K) (fun x : HasA => [andD (He.ga K "And") x.n x.b, .tup (x.pt.map D.int)]) (fun x => .bl (hasF x.b x.pt))) := by
  obtain ⟨fd, Fc, hb⟩ := F.fn_And_has
  refine ⟨⟨fd, LW.fn_ok Fc sc_Ah (fun x => [some (andD (He.ga K "And") x.n x.b), some (.tup (x.pt.map D.int)), none, none]) (fun x A outer s H E hr => ?_), hb⟩, Fc.kp⟩
  have nd := sc_Ah.nd
  obtain ⟨tb, hT⟩ := F.tb_And_has
  obtain ⟨n, b, pt, h, hp⟩ := x
  have gk := gk_of (P := P) (w := w) (H := H) (E := E) (outer := outer) (s := s) tb hT hr nd
  cases b with
  | none =>
    exact pb_ret (pd_and2 (k := false) (l := false) (pd_cast (pd_notN (pd_fld OV.dat F.cls_And F.noat_And_bits (pd_var 0))) rfl) fun h => by cases h) ⟨rfl, rfl⟩
  | some ps =>
    obtain ⟨h1, h2, h3⟩ := h.h ps rfl
    refine pb_ret (pd_cast (pd_and2 (k := true) (l := ps.all fun p => !true || decide (ptAt pt p.1 = p.2)) (pd_cast (pd_notN (pd_fld OV.dat F.cls_And F.noat_And_bits (pd_var 0))) rfl) fun _ =>
      pd_all (k := 0) (own := [("place", 2), ("bit", 3)]) (xs := ps) (kp := fun _ => true) (enc := pairD) (us := fun p => [.int p.1, .int p.2]) gk F.free_all (pdi_items (kvs := bK ps) (pd_fld OV.dat F.cls_And F.noat_And_bits (pd_var 0)))
        (genB_by (by kernel_rfl)) (fun Ag s H C cl code fp pn hr => pg_tup rfl (pgs_cons (pg_name nd (i := 2) rfl (Or.inl rfl) (.inr rfl)) (pgs_cons (pg_name nd (i := 3) rfl (Or.inl rfl) (.inr rfl)) pgs_nil))) (tgt_tup [2, 3]) (by decide) trivial ⟨bK_pr ps, fun _ => rfl⟩
        (fun p hp Ag s H C cl code fp pn hr => pdts_nil) fun p hp _ Ag s H C cl code fp pn hr => pd_eqI (pd_ixT (ptAt_ix (h3 p hp).1 (h3 p hp).2) (pd_var 1) (pd_var 2)) (pd_var 3)) ?_) ⟨rfl, rfl⟩
    unfold hasF
    simp
/-- widened gives a new And -/
theorem Aw_ok (F : Fx P w K mg base) : Cal P w K mg base 3 (He.fAd K ("And", some "widened")) ["self", "point"] (spP w T (fun x : HasA => [andD (He.ga K "And") x.n x.b, .tup (x.pt.map D.int)]) (fun x => andD (He.ga K "And") x.n (some (wideF x.b x.pt)))) := by
  obtain ⟨fd, Fc, hb⟩ := F.fn_And_widened
  refine ⟨⟨fd, LW.fn_ok Fc sc_Aw (fun x => [some (andD (He.ga K "And") x.n x.b), some (.tup (x.pt.map D.int)), none, none]) (fun x A outer s H E hr => ?_), hb⟩, Fc.kp⟩
  have nd := sc_Aw.nd
  obtain ⟨n, b, pt, h, hp⟩ := x
  obtain ⟨fi, Fi, bi, _⟩ := Ai_ok (P := P) (base := base) (T := T) F
  cases b with
  | none =>
    refine pb_ifret (k := true) (pdt_cast (pdt_isN (pd_fld OV.dat F.cls_And F.noat_And_bits (pd_var 0))) rfl) (fun _ => ?_) fun h => by cases h
    refine pb_retR (pdr_freeze (M1 := []) (R' := fun d m => d = andD (He.ga K "And") n (some (iotaB pt)) ∧ m = []) (pdr_makeD (ds := [.int n, .dic (bK (iotaB pt))]) (fun q => (⟨q, n, .dic (bK (iotaB pt)), some (iotaB pt), .inr ⟨_, rfl, iotaB_keys pt, ?_, .inl rfl⟩⟩ : AndA)) (fun _ => []) Fi F.mkr_And (hr.mono (by decide)) F.glo_And bi .nil Dfl.nil
      (pdl_cons (pd_fld OV.dat F.cls_And F.noat_And_many (pd_var 0)) (pdl_1 (pd_cast (pd_dictEnum F.free_dict F.free_enumerate (pd_var 1) ?_) ?_))) (fun q => rfl) (fun q => rfl) (fun q d m h => h.1)) ?_) ?_
    · unfold iotaB
      rw [List.length_map, List.length_range]
      exact hp
    · rw [List.length_map]; exact Nat.le_trans hp (by decide)
    · rw [iota_bK, dmrg_bK (iotaB_keys pt)]
    · rintro d m ⟨q, m', rfl, rfl, _, rfl⟩
      exact ⟨q, _, _, rfl, rfl, rfl, rfl⟩
    · exact fun d m h => h
  | some ps =>
    obtain ⟨h1, h2, h3⟩ := h.h ps rfl
    refine pb_ifret (k := false) (pdt_cast (pdt_isN (pd_fld OV.dat F.cls_And F.noat_And_bits (pd_var 0))) rfl) (fun h => by cases h) fun _ => ?_
    have kn : ((ps.filter fun p => decide (ptAt pt p.1 = p.2)).map (·.1)).Nodup := h1.sublist (List.Sublist.map _ List.filter_sublist)
    have kl : (ps.filter fun p => decide (ptAt pt p.1 = p.2)).length ≤ 1000 := Nat.le_trans (List.length_filter_le _ _) h2
    refine pb_retR (pdr_freeze (M1 := []) (R' := fun d m => d = andD (He.ga K "And") n (some (ps.filter fun p => decide (ptAt pt p.1 = p.2))) ∧ m = []) (pdr_makeD (ds := [.int n, .dic (bK (ps.filter fun p => decide (ptAt pt p.1 = p.2)))]) (fun q => (⟨q, n, .dic (bK (ps.filter fun p => decide (ptAt pt p.1 = p.2))), some (ps.filter fun p => decide (ptAt pt p.1 = p.2)), .inr ⟨_, rfl, kn, kl, .inl rfl⟩⟩ : AndA)) (fun _ => []) Fi F.mkr_And (hr.mono (by decide)) F.glo_And bi .nil Dfl.nil
      (pdl_cons (pd_fld OV.dat F.cls_And F.noat_And_many (pd_var 0)) (pdl_1 (pd_cast (pd_dictI (ps := (ps.filter fun p => decide (ptAt pt p.1 = p.2)).map eB) (da := .lst ((ps.filter fun p => decide (ptAt pt p.1 = p.2)).map pairD)) (by rw [← bK_pr]; exact LV.dat) (by rw [List.length_map]; exact Nat.le_trans kl (by decide)) F.free_dict
        (pd_lc (own := [("place", 2), ("bit", 3)]) (xs := ps) (enc := pairD) (us := fun p => [.int p.1, .int p.2]) (ed := pairD) (pdi_items (kvs := bK ps) (pd_fld OV.dat F.cls_And F.noat_And_bits (pd_var 0))) nd (blkOk_by (by kernel_rfl)) (fun s H C cl fp => pg_tup rfl (pgs_cons (pg_name nd (i := 2) rfl (Or.inl rfl)) (pgs_cons (pg_name nd (i := 3) rfl (Or.inl rfl)) pgs_nil))) (tgt_tup [2, 3]) (by decide) trivial ⟨bK_pr ps, fun _ => rfl⟩
          (Nat.le_trans h2 (by decide)) (fun p hp s H C cl fp => pdts_one (pdt_eqI (pd_ixT (ptAt_ix (h3 p hp).1 (h3 p hp).2) (pd_var 1) (pd_var 2)) (pd_var 3))) fun p hp _ s H C cl fp => pd_tup (pdl_cons (pd_var 2) (pdl_1 (pd_var 3))))) ?_))) (fun q => rfl) (fun q => rfl) (fun q d m h => h.1)) ?_) ?_
    · show D.dic (dmrg [] (bK _)) = _
      rw [dmrg_bK kn]
    · rintro d m ⟨q, m', rfl, rfl, _, rfl⟩
      exact ⟨q, _, _, rfl, rfl, rfl, rfl⟩
    · exact fun d m h => h
end
end H65

set_option Elab.async false
set_option linter.all false
set_option maxRecDepth 100000
set_option maxHeartbeats 4000000
/-! k65: And.covers, Learner. -/
namespace H65
open PySem PySem.Spec PyProof.Rows L2 LW
def getB (ps : Bits) (k : Int) : Option Int := (ps.find? fun p => decide (p.1 = k)).map (·.2)
def covF : Option Bits → Option Bits → Bool
  | _, none => true
  | none, some _ => false
  | some ps, some qs => ps.all fun p => decide (getB qs p.1 = some p.2)
theorem dget_bK (qs : Bits) (k : Int) : dget (bK qs) (.int k) = (getB qs k).map D.int := by
  unfold dget getB bK
  induction qs with
  | nil => rfl
  | cons q r ih =>
    have e : nkEq (D.int q.1) (.int k) = decide (q.1 = k) := by
      unfold nkEq
      by_cases h : q.1 = k
      · subst h; simp
      · rw [decide_eq_false h, decide_eq_false]
        intro z
        have z : some (NestedKey.num q.1) = some (NestedKey.num k) := z
        injection z with z
        injection z with z
        exact h z
    rw [List.map_cons, List.map_cons, List.find?_cons, List.find?_cons]
    show Option.map _ (match nkEq (D.int q.1) (.int k) with | true => _ | false => _) = _
    rw [e]
    cases decide (q.1 = k) with
    | true => rfl
    | false => exact ih
def optP : Option Int → PyData
  | none => .none
  | some i => .int i
theorem opt_pv {M : Mem} (o : Option Int) : PV M ((o.map D.int).getD .non) (optP o) := by cases o <;> exact .dat rfl
theorem opt_sh (o : Option Int) : SeqAt.shaped (optP o) = true := by cases o <;> rfl
theorem opt_eq (o : Option Int) (i : Int) : PyData.eqv (optP o) (.int i) = decide (o = some i) := by
  cases o with
  | none => simp [optP, PyData.eqv]
  | some j =>
    show (j == i) = _
    by_cases h : j = i
    · subst h; simp
    · simp [h]
structure CovA where
  n : Int
  b : Option Bits
  n' : Int
  b' : Option Bits
def learnF (C : Addr) (n : Int) (b : Option Bits) (m : Int) : List (Str × D) := [("rule", andD C n b), ("mistakes", .int m)]
def learnB (b : Option Bits) (pt : List Int) (take : Bool) : Option Bits := if (take && !hasF b pt) = true then some (wideF b pt) else b
def learnM (b : Option Bits) (pt : List Int) (take : Bool) (m : Int) : Int := if (take && !hasF b pt) = true then m + 1 else m
structure LsA where
  q : Addr
  n : Int
  b : Option Bits
  m : Int
  pt : List Int
  take : Bool
  h : BOk pt.length b ∧ pt.length ≤ 1000
  ht : hasF b pt = true → take = true
structure LiA where
  q : Addr
  n : Int
section
variable {P : Program} {w : World} {K : PySem.W.Frag} {mg : Str → Option Value} {base : Heap} {T : List Addr}
theorem Ac_ok (F : Fx P w K mg base) : Cal P w K mg base 2 (He.fAd K ("And", some "covers")) ["self", "other"] (spP w (Tb K) (fun x : CovA => [andD (He.ga K "And") x.n x.b, andD (He.ga K "And") x.n' x.b']) (fun x => .bl (covF x.b x.b'))) := by
  obtain ⟨fd, Fc, hb⟩ := F.fn_And_covers
  refine ⟨⟨fd, LW.fn_ok Fc sc_Ac (fun x => [some (andD (He.ga K "And") x.n x.b), some (andD (He.ga K "And") x.n' x.b'), none, none]) (fun x A outer s H E hr => ?_), hb⟩, Fc.kp⟩
  have nd := sc_Ac.nd
  obtain ⟨tb, hT⟩ := F.tb_And_covers
  obtain ⟨n, b, n', b'⟩ := x
  have gk := gk_of (P := P) (w := w) (H := H) (E := E) (outer := outer) (s := s) tb hT hr nd
  cases b' with
  | none => exact pb_ifret (k := true) (pdt_cast (pdt_isN (pd_fld OV.dat F.cls_And F.noat_And_bits (pd_var 1))) rfl) (fun _ => pb_ret pd_bl ⟨by cases b <;> rfl, rfl⟩) fun h => by cases h
  | some qs =>
    refine pb_ifret (k := false) (pdt_cast (pdt_isN (pd_fld OV.dat F.cls_And F.noat_And_bits (pd_var 1))) rfl) (fun h => by cases h) fun _ => ?_
    cases b with
    | none =>
      exact pb_ret (pd_and2 (k := false) (l := false) (pd_cast (pd_notN (pd_fld OV.dat F.cls_And F.noat_And_bits (pd_var 0))) rfl) fun h => by cases h) ⟨rfl, rfl⟩
    | some ps =>
      refine pb_ret (pd_cast (pd_and2 (k := true) (l := ps.all fun p => !true || decide (getB qs p.1 = some p.2)) (pd_cast (pd_notN (pd_fld OV.dat F.cls_And F.noat_And_bits (pd_var 0))) rfl) fun _ =>
        pd_all (k := 0) (own := [("place", 2), ("bit", 3)]) (xs := ps) (kp := fun _ => true) (enc := pairD) (us := fun p => [.int p.1, .int p.2]) gk F.free_all (pdi_items (kvs := bK ps) (pd_fld OV.dat F.cls_And F.noat_And_bits (pd_var 0)))
          (genB_by (by kernel_rfl)) (fun Ag s H C cl code fp pn hr => pg_tup rfl (pgs_cons (pg_name nd (i := 2) rfl (Or.inl rfl) (.inr rfl)) (pgs_cons (pg_name nd (i := 3) rfl (Or.inl rfl) (.inr rfl)) pgs_nil))) (tgt_tup [2, 3]) (by decide) trivial ⟨bK_pr ps, fun _ => rfl⟩
          (fun p hp Ag s H C cl code fp pn hr => pdts_nil) fun p hp _ Ag s H C cl code fp pn hr => ?_) ?_) ⟨rfl, rfl⟩
      · exact pd_eqD (da := ((getB qs p.1).map D.int).getD .non) (x := optP (getB qs p.1)) (y := .int p.2) (un_of hr (by decide)) (opt_pv _) (.dat rfl) (opt_sh _) rfl (opt_eq _ _)
          (pd_cast (pd_get1 (ps := qs.map eB) (i := p.1) DV.dat DV.dat (pd_fld (fs := andF n' (some qs)) OV.dat F.cls_And F.noat_And_bits (pd_var 1)) (pd_var 2)) (by rw [← dget_bK]; rfl)) (pd_var 3)
      · show D.bl (true && _) = D.bl (covF (some ps) (some qs))
        unfold covF
        simp
theorem Li_ok (F : Fx P w K mg base) : Cal P w K mg base 3 (He.fAd K ("Learner", some "__init__")) ["self", "many"] (spC w T (fun x : LiA => [.ref x.q, .int x.n]) (fun x => [some (x.q, .obj (He.ga K "Learner") [])]) (fun x d m => d = .non ∧ m = [some (x.q, .obj (He.ga K "Learner") (learnF (He.ga K "And") x.n none 0))])) := by
  obtain ⟨fd, Fc, hb⟩ := F.fn_Learner_init
  refine ⟨⟨fd, LW.fn_ok Fc sc_Li (fun x => [some (.ref x.q), some (.int x.n)]) (fun x A outer s H E hr => ?_), hb⟩, Fc.kp⟩
  obtain ⟨q, n⟩ := x
  obtain ⟨fi, Fi, _, dU, hv, bi⟩ := Ai_ok (P := P) (base := base) (T := T) F
  refine pb_fld (d := andD (He.ga K "And") n none) 0 (pd_ofR (pdr_freeze (M1 := [some (q, .obj (He.ga K "Learner") [])]) (R' := fun d m => d = andD (He.ga K "And") n none ∧ m = [some (q, .obj (He.ga K "Learner") [])]) (pdr_makeD (ds := [.int n]) (dvs := [.non]) (fun a => (⟨a, n, .non, none, .inl ⟨rfl, rfl⟩⟩ : AndA)) (fun _ => []) Fi F.mkr_And (hr.mono (by decide)) F.glo_And bi hv ⟨fun _ => .cons .non .nil⟩
      (pdl_1 (pd_var 1)) (fun q => rfl) (fun q => rfl) (fun q d m h => h.1)) ?_) fun d m h => h) (fun m => pd_var 0) F.cls_Learner F.noat_Learner_rule ?_
  · rintro d m ⟨a, m', rfl, rfl, _, rfl⟩
    exact ⟨a, _, _, rfl, rfl, rfl, rfl⟩
  · exact pb_fld 0 pd_int (fun m => pd_var 0) F.cls_Learner F.noat_Learner_mistakes (pb_nil ⟨rfl, rfl⟩)
theorem Ls_ok (F : Fx P w K mg base) : Cal P w K mg base 4 (He.fAd K ("Learner", some "see")) ["self", "point", "take"] (spC w (Tb K) (fun x : LsA => [.ref x.q, .tup (x.pt.map D.int), .bl x.take]) (fun x => [some (x.q, .obj (He.ga K "Learner") (learnF (He.ga K "And") x.n x.b x.m))])
    (fun x d m => d = .bl (hasF x.b x.pt) ∧ m = [some (x.q, .obj (He.ga K "Learner") (learnF (He.ga K "And") x.n (learnB x.b x.pt x.take) (learnM x.b x.pt x.take x.m)))])) := by
  obtain ⟨fd, Fc, hb⟩ := F.fn_Learner_see
  refine ⟨⟨fd, LW.fn_ok Fc sc_Ls (fun x => [some (.ref x.q), some (.tup (x.pt.map D.int)), some (.bl x.take), none]) (fun x A outer s H E hr => ?_), hb⟩, Fc.kp⟩
  have nd := sc_Ls.nd
  obtain ⟨q, n, b, m, pt, take, h, ht⟩ := x
  refine pb_set 3 (pd_mC (⟨n, b, pt, h⟩ : HasA) (Ah_ok F) (hr.mono (by decide)) F.cls_And F.meth_And_has (pd_fld (OV.own 0) F.cls_Learner F.noat_Learner_rule (pd_var 0)) OV.dat (pdl_1 (pd_var 1)) rfl) nd ?_
  refine pb_ifno (pdt_cast (pdt_and (pdt_val (pd_var 3)) fun _ => pdt_not (pdt_val (pd_var 2))) (by
    show (hasF b pt && !take) = false
    cases hh : hasF b pt with
    | false => rfl
    | true =>
      have e := ht hh
      subst e
      rfl)) ?_
  refine pb_if (k := take && !hasF b pt) (Nx1 := fun ρ' m' => ρ' = [some (.ref q), some (.tup (pt.map D.int)), some (.bl take), some (.bl (hasF b pt))] ∧ m' = [some (q, .obj (He.ga K "Learner") (learnF (He.ga K "And") n (learnB b pt take) (learnM b pt take m)))]) (pdt_and (pdt_val (pd_var 2)) fun _ => pdt_not (pdt_val (pd_var 3))) (fun hk => ?_) (fun hk => ?_) fun ρ' m' ⟨e1, e2⟩ => ?_
  · refine pb_fldaug 0 (pd_var 0) rfl rfl pd_int iop_add (ok_i0 (i := m)) F.cls_Learner F.noat_Learner_mistakes (Nat.le_of_ble_eq_true rfl) ?_
    refine pb_fld 0 (pd_mC (⟨n, b, pt, h⟩ : HasA) (Aw_ok F) (hr.mono (by decide)) F.cls_And F.meth_And_widened (pd_fld (OV.own 0) F.cls_Learner F.noat_Learner_rule (pd_var 0)) OV.dat (pdl_1 (pd_var 1)) rfl) (fun m => pd_var 0) F.cls_Learner F.noat_Learner_rule (pb_nil ⟨rfl, ?_⟩)
    unfold learnB learnM
    rw [if_pos hk, if_pos hk]
    rfl
  · refine pb_nil ⟨rfl, ?_⟩
    unfold learnB learnM
    rw [if_neg (by rw [hk]; exact Bool.false_ne_true), if_neg (by rw [hk]; exact Bool.false_ne_true)]
  · subst e1 e2
    exact pb_ret (pd_var 3) ⟨rfl, rfl⟩
end
end H65

set_option Elab.async false
set_option linter.all false
set_option maxRecDepth 100000
set_option maxHeartbeats 4000000
/-! k65: rules, Halving. -/
namespace H65
open PySem PySem.Spec PyProof.Rows L2 LW
theorem sc_cr : FnScope ["rules", "found", "rule"] ["rules"] (defScope s_check_rules) := ⟨rfl, rfl, rfl, by decide +kernel, rfl, by decide +kernel, by decide +kernel⟩
theorem sc_ke : FnScope ["rules", "question", "answer", "rule"] ["rules", "question", "answer"] (defScope s_kept) := ⟨rfl, rfl, rfl, by decide +kernel, rfl, by decide +kernel, by decide +kernel⟩
theorem sc_Hi : FnScope ["self", "rules"] ["self", "rules"] (defScope s_Halving_init) := ⟨rfl, rfl, rfl, by decide +kernel, rfl, by decide +kernel, by decide +kernel⟩
theorem sc_Hg : FnScope ["self", "question"] ["self", "question"] (defScope s_Halving_guess) := ⟨rfl, rfl, rfl, by decide +kernel, rfl, by decide +kernel, by decide +kernel⟩
theorem sc_Hs : FnScope ["self", "question", "answer", "guess", "left"] ["self", "question", "answer"] (defScope s_Halving_see) := ⟨rfl, rfl, rfl, by decide +kernel, rfl, by decide +kernel, by decide +kernel⟩
abbrev Rul := List Bool
abbrev rD (r : Rul) : D := .tup (r.map D.bl)
abbrev rP (r : Rul) : PyData := .tuple (r.map .bool)
theorem eP : EncP 1 rD rP := encP_bl.tup
theorem eK : EncK 1 rD (fun r => NestedKey.tup (r.map fun b => NestedKey.num (if b = true then 1 else 0))) := encK_bl.tup
structure RuOk (n : Nat) (rs : List Rul) : Prop where
  ne : 0 < rs.length
  le : rs.length ≤ 1000
  w : ∀ r ∈ rs, r.length = n
  n0 : 0 < n
  n1 : n ≤ 1000
structure RuA where
  n : Nat
  rs : List Rul
  ok : RuOk n rs
  nd : rs.Nodup
  st : rs.Pairwise (fun a b => leE rD a b = true)
theorem rSrt {rs : List Rul} (hl : rs.length ≤ 1000) (hn : ∀ r ∈ rs, 0 < r.length) : Srt (rs.map rD) := eP.srt (by decide) (Nat.le_trans hl (by decide)) (.inl fun r hr => by
  have h := hn r hr
  cases r with
  | nil => cases h
  | cons b t => exact ⟨_, _, rfl⟩)
theorem one_pr {α : Type} (f : α → D) (xs : List α) : (xs.map (oneD f)).map LW.prD = xs.map fun a => D.tup [f a, .int 1] := by
  rw [List.map_map]
  rfl
structure KeA where
  rs : List Rul
  k : Int
  a : Bool
  h : rs.length ≤ 1000 ∧ ∀ r ∈ rs, 0 ≤ k ∧ k < r.length
def atR (r : Rul) (k : Int) : Bool := r.getD k.toNat false
theorem atR_ix {r : Rul} {k : Int} (h0 : 0 ≤ k) (h1 : k < r.length) : L2.atI (r.map D.bl) k = some (.bl (atR r k)) := by
  refine atI_of h0 ?_
  have hl : k.toNat < r.length := by omega
  rw [List.getElem?_map, List.getElem?_eq_getElem hl]
  unfold atR
  rw [List.getD_eq_getElem?_getD, List.getElem?_eq_getElem hl]
  rfl
def keptF (rs : List Rul) (k : Int) (a : Bool) : List Rul := rs.filter fun r => decide (atR r k = a)
def halfF (rs : List Rul) (m : Int) : List (Str × D) := [("rules", .lst (rs.map rD)), ("mistakes", .int m)]
def hguess (rs : List Rul) (k : Int) : Bool := decide ((rs.length : Int) ≤ 2 * (keptF rs k true).length)
structure HiA extends RuA where
  q : Addr
structure HgA where
  q : Addr
  rs : List Rul
  m : Int
  k : Int
  h : rs.length ≤ 1000 ∧ ∀ r ∈ rs, 0 ≤ k ∧ k < r.length
structure HsA extends HgA where
  a : Bool
  hne : keptF rs k a ≠ []
section
variable {P : Program} {w : World} {K : PySem.W.Frag} {mg : Str → Option Value} {base : Heap} {T : List Addr}
theorem cr_ok (F : Fx P w K mg base) : Cal P w K mg base 2 (He.fAd K ("check_rules", none)) ["rules"] (spP w (Tb K) (fun x : RuA => [.lst (x.rs.map rD)]) (fun x => .lst (x.rs.map rD))) := by
  obtain ⟨fd, Fc, hb⟩ := F.fn_check_rules
  refine ⟨⟨fd, LW.fn_ok Fc sc_cr (fun x => [some (.lst (x.rs.map rD)), none, none]) (fun x A outer s H E hr => ?_), hb⟩, Fc.kp⟩
  have nd := sc_cr.nd
  obtain ⟨tb, hT⟩ := F.tb_check_rules
  have gk := gk_of (P := P) (w := w) (H := H) (E := E) (outer := outer) (s := s) tb hT hr nd
  obtain ⟨n, rs, ok, hnd, hst⟩ := x
  refine pb_set (d := .lst (rs.map rD)) 1 (pd_cast (pd_sortDic (kvs := (ddp [] rs).map (oneD rD)) DV.dat ?_ (un_of hr (by decide)) F.free_sorted (pd_cast (pd_dictH (kvs := rs.map (oneD rD)) (da := .lst (rs.map fun r => .tup [rD r, .int 1])) (un_of hr (by decide)) (by rw [one_pr]; exact LV.dat) ?_ ?_ ?_ F.free_dict
    (pd_cast (pd_lc (own := [("rule", 2)]) (xs := rs) (kp := fun _ => true) (enc := rD) (us := fun r => [rD r]) (ed := fun r => .tup [rD r, .int 1]) (pdi_list LV.dat (pd_var 0)) nd (blkOk_by (by kernel_rfl)) (fun s H C cl fp => pg_name nd rfl (Or.inl rfl)) (tgt_name 2) (by decide) LV.dat ⟨rfl, fun _ => rfl⟩ (Nat.le_trans ok.le (by decide))
      (fun r hr s H C cl fp => pdts_nil) fun r hr _ s H C cl fp => pd_tup (pdl_cons (pd_tupT F.free_tuple (pd_var 2)) (pdl_1 pd_int))) (by rw [filter_yes]))) (by rw [dmrg_ones eK]))) ?_) nd ?_
  · rw [keys_one, ddp_same rs [] hnd]
    exact rSrt ok.le fun r hr => by rw [ok.w r hr]; exact ok.n0
  · exact fun p hp => by obtain ⟨r, _, rfl⟩ := List.mem_map.mp hp; rfl
  · exact fun p hp => by obtain ⟨r, _, rfl⟩ := List.mem_map.mp hp; exact ⟨_, eK.nk r, Nat.le_trans (eK.dep r) (by decide)⟩
  · rw [List.length_map]
    exact Nat.le_trans ok.le (by decide)
  · rw [keys_one, ddp_same rs [] hnd, List.nil_append, sortD_enc, srtE_same rD hst]
  · cases rs with
    | nil => exact absurd ok.ne (by decide)
    | cons r0 rest =>
      have h0 : r0 ≠ [] := fun e => by
        have := ok.w r0 List.mem_cons_self
        rw [e] at this
        exact absurd ok.n0 (by rw [← this]; decide)
      refine pb_ifno (pdt_cast (PW.pt (pdw_or (pdt_eqE eP.lst (x := r0 :: rest) (y := []) (un_of hr (by decide)) (pd_var 1) (pd_lst pdl_nil)) fun _ => pdw_or (pdt_eqE eP (x := r0) (y := []) (un_of hr (by decide)) (pd_ixL LV.dat (atI_of (by decide) rfl) (pd_var 1) pd_int) (pd_tup pdl_nil)) fun _ => pdw_or1 (pdt_val
        (pd_any (k := 0) (own := [("rule", 2)]) (xs := r0 :: rest) (kp := fun _ => true) (el := fun r => !decide ((r.length : Int) = r0.length)) (enc := rD) (us := fun r => [rD r]) gk F.free_any (pdi_list LV.dat (pd_var 1)) (genB_by (by kernel_rfl)) (fun Ag s H C cl code fp pn hr => pg_name nd rfl (Or.inl rfl) (.inr rfl)) (tgt_name 2) (by decide) LV.dat ⟨rfl, fun _ => rfl⟩
          (fun r hr Ag s H C cl code fp pn hr => pdts_nil) fun r hr _ Ag s H C cl code fp pn hr => pd_cast (pd_neI (pd_lenT (ds := r.map D.bl) F.free_len (pd_var 2)) (pd_lenT (ds := r0.map D.bl) F.free_len (pd_ixL (ds := (r0 :: rest).map rD) LV.dat (atI_of (by decide) rfl) (pd_var 1) pd_int))) (by rw [List.length_map, List.length_map]))))) ?_) (pb_ret (pd_var 1) ⟨rfl, rfl⟩)
      rw [decide_eq_false (by simp), decide_eq_false h0]
      show ((r0 :: rest).any fun r => true && !decide ((r.length : Int) = r0.length)) = false
      refine List.any_eq_false.mpr fun r hr => ?_
      rw [ok.w r hr, ok.w r0 List.mem_cons_self]
      simp
theorem ke_ok (F : Fx P w K mg base) : Cal P w K mg base 1 (He.fAd K ("kept", none)) ["rules", "question", "answer"] (spP w T (fun x : KeA => [.lst (x.rs.map rD), .int x.k, .bl x.a]) (fun x => .lst ((keptF x.rs x.k x.a).map rD))) := by
  obtain ⟨fd, Fc, hb⟩ := F.fn_kept
  refine ⟨⟨fd, LW.fn_ok Fc sc_ke (fun x => [some (.lst (x.rs.map rD)), some (.int x.k), some (.bl x.a), none]) (fun x A outer s H E hr => ?_), hb⟩, Fc.kp⟩
  have nd := sc_ke.nd
  obtain ⟨rs, k, a, h1, h2⟩ := x
  exact pb_ret (pd_lc (own := [("rule", 3)]) (xs := rs) (kp := fun r => decide (atR r k = a)) (enc := rD) (us := fun r => [rD r]) (ed := rD) (pdi_list LV.dat (pd_var 0)) nd (blkOk_by (by kernel_rfl)) (fun s H C cl fp => pg_name nd rfl (Or.inl rfl)) (tgt_name 3) (by decide) LV.dat ⟨rfl, fun _ => rfl⟩ (Nat.le_trans h1 (by decide))
    (fun r hr s H C cl fp => pdts_one (pdt_eqB (pd_ixT (atR_ix (h2 r hr).1 (h2 r hr).2) (pd_var 3) (pd_var 1)) (pd_var 2))) fun r hr _ s H C cl fp => pd_var 3) ⟨rfl, rfl⟩
theorem Hi_ok (F : Fx P w K mg base) : Cal P w K mg base 3 (He.fAd K ("Halving", some "__init__")) ["self", "rules"] (spC w (Tb K) (fun x : HiA => [.ref x.q, .lst (x.rs.map rD)]) (fun x => [some (x.q, .obj (He.ga K "Halving") [])]) (fun x d m => d = .non ∧ m = [some (x.q, .obj (He.ga K "Halving") (halfF x.rs 0))])) := by
  obtain ⟨fd, Fc, hb⟩ := F.fn_Halving_init
  refine ⟨⟨fd, LW.fn_ok Fc sc_Hi (fun x => [some (.ref x.q), some (.lst (x.rs.map rD))]) (fun x A outer s H E hr => ?_), hb⟩, Fc.kp⟩
  refine pb_fld 0 (pd_cC x.toRuA (cr_ok F) (hr.mono (by decide)) F.glo_check_rules (pdl_1 (pd_var 1)) rfl) (fun m => pd_var 0) F.cls_Halving F.noat_Halving_rules ?_
  exact pb_fld 0 pd_int (fun m => pd_var 0) F.cls_Halving F.noat_Halving_mistakes (pb_nil ⟨rfl, rfl⟩)
theorem Hg_ok (F : Fx P w K mg base) : Cal P w K mg base 2 (He.fAd K ("Halving", some "guess")) ["self", "question"] (spC w T (fun x : HgA => [.ref x.q, .int x.k]) (fun x => [some (x.q, .obj (He.ga K "Halving") (halfF x.rs x.m))]) (fun x d m => d = .bl (hguess x.rs x.k) ∧ m = [some (x.q, .obj (He.ga K "Halving") (halfF x.rs x.m))])) := by
  obtain ⟨fd, Fc, hb⟩ := F.fn_Halving_guess
  refine ⟨⟨fd, LW.fn_ok Fc sc_Hg (fun x => [some (.ref x.q), some (.int x.k)]) (fun x A outer s H E hr => ?_), hb⟩, Fc.kp⟩
  refine pb_ret (pd_cast (pd_ge (pd_mul (.inl ⟨by decide, by decide⟩) pd_int (pd_lenL LV.dat F.free_len (pd_cC (⟨x.rs, x.k, true, x.h⟩ : KeA) (ke_ok F) (hr.mono (by decide)) F.glo_kept (pdl_cons (pd_fld (OV.own 0) F.cls_Halving F.noat_Halving_rules (pd_var 0)) (pdl_cons (pd_var 1) (pdl_1 pd_bl))) rfl)))
    (pd_lenL LV.dat F.free_len (pd_fld (OV.own 0) F.cls_Halving F.noat_Halving_rules (pd_var 0)))) ?_) ⟨rfl, rfl⟩
  unfold hguess
  rw [List.length_map, List.length_map]
theorem Hs_ok (F : Fx P w K mg base) : Cal P w K mg base 3 (He.fAd K ("Halving", some "see")) ["self", "question", "answer"] (spC w T (fun x : HsA => [.ref x.q, .int x.k, .bl x.a]) (fun x => [some (x.q, .obj (He.ga K "Halving") (halfF x.rs x.m))])
    (fun x d m => d = .bl (hguess x.rs x.k) ∧ m = [some (x.q, .obj (He.ga K "Halving") (halfF (keptF x.rs x.k x.a) (x.m + (if !decide (hguess x.rs x.k = x.a) then 1 else 0))))])) := by
  obtain ⟨fd, Fc, hb⟩ := F.fn_Halving_see
  refine ⟨⟨fd, LW.fn_ok Fc sc_Hs (fun x => [some (.ref x.q), some (.int x.k), some (.bl x.a), none, none]) (fun x A outer s H E hr => ?_), hb⟩, Fc.kp⟩
  have nd := sc_Hs.nd
  refine pb_set 3 (pd_ofR (pdr_mC x.toHgA (Hg_ok F) (hr.mono (by decide)) F.cls_Halving F.meth_Halving_guess (pd_var 0) (OV.own 0) (pdl_1 (pd_var 1)) rfl Fram.all) fun d m ⟨m', e1, e2, e3⟩ => ⟨e2, e1.trans e3⟩) nd ?_
  refine pb_set 4 (pd_cC (⟨x.rs, x.k, x.a, x.h⟩ : KeA) (ke_ok F) (hr.mono (by decide)) F.glo_kept (pdl_cons (pd_fld (OV.own 0) F.cls_Halving F.noat_Halving_rules (pd_var 0)) (pdl_cons (pd_var 1) (pdl_1 (pd_var 2)))) rfl) nd ?_
  refine pb_ifno (pdt_cast (pdt_eqE eP.lst (x := keptF x.rs x.k x.a) (y := []) (un_of hr (by decide)) (pd_var 4) (pd_lst pdl_nil)) (decide_eq_false x.hne)) ?_
  refine pb_fldaug 0 (pd_var 0) rfl rfl (pd_intB F.free_int (pd_neB (pd_var 3) (pd_var 2))) iop_add (ok_i0 (i := x.m)) F.cls_Halving F.noat_Halving_mistakes (Nat.le_of_ble_eq_true rfl) ?_
  refine pb_fld 0 (pd_var 4) (fun m => pd_var 0) F.cls_Halving F.noat_Halving_rules ?_
  exact pb_ret (pd_var 3) ⟨rfl, rfl⟩
end
end H65

set_option Elab.async false
set_option linter.all false
set_option maxRecDepth 100000
set_option maxHeartbeats 4000000
/-! k65: inner, check_signed, Parter, margin, side_bound. -/
namespace H65
open PySem PySem.Spec PyProof.Rows L2 LW
theorem sc_in : FnScope ["one", "other", "a", "b"] ["one", "other"] (defScope s_inner) := ⟨rfl, rfl, rfl, by decide +kernel, rfl, by decide +kernel, by decide +kernel⟩
theorem sc_cs : FnScope ["examples", "found", "row", "sign"] ["examples"] (defScope s_check_signed) := ⟨rfl, rfl, rfl, by decide +kernel, rfl, by decide +kernel, by decide +kernel⟩
theorem sc_ma : FnScope ["examples", "weights", "row", "sign"] ["examples", "weights"] (defScope s_margin) := ⟨rfl, rfl, rfl, by decide +kernel, rfl, by decide +kernel, by decide +kernel⟩
theorem sc_sb : FnScope ["mistakes", "examples", "weights", "rows", "greatest", "edge", "row", "sign"] ["mistakes", "examples", "weights"] (defScope s_side_bound) := ⟨rfl, rfl, rfl, by decide +kernel, rfl, by decide +kernel, by decide +kernel⟩
theorem sc_Pi : FnScope ["self", "many"] ["self", "many"] (defScope s_Parter_init) := ⟨rfl, rfl, rfl, by decide +kernel, rfl, by decide +kernel, by decide +kernel⟩
theorem sc_Ps : FnScope ["self", "row", "sign", "wrong", "weight", "part"] ["self", "row", "sign"] (defScope s_Parter_see) := ⟨rfl, rfl, rfl, by decide +kernel, rfl, by decide +kernel, by decide +kernel⟩
def dot (as bs : List Int) : Int := ((as.zip bs).map fun p => p.1 * p.2).sum
/-- a row of ints, a tuple or a list -/
def rowT (l : Bool) (as : List Int) : D := if l = true then .lst (as.map D.int) else .tup (as.map D.int)
theorem rowT_sv {M : Mem} (l : Bool) (as : List Int) : SV M (rowT l as) (as.map D.int) := by
  cases l
  · exact .tup
  · exact .dat
structure InA where
  l : Bool
  l' : Bool
  as : List Int
  bs : List Int
  h : ∀ b ∈ bs, -(2 ^ 64) < b ∧ b < 2 ^ 64
abbrev Sig := List Int × Int
abbrev sD (e : Sig) : D := .tup [.tup (e.1.map D.int), .int e.2]
structure SgOk (n : Nat) (es : List Sig) : Prop where
  le : es.length ≤ 1000
  w : ∀ e ∈ es, e.1.length = n
  s : ∀ e ∈ es, e.2 = 1 ∨ e.2 = -1
  z : ∀ e ∈ es, ∀ b ∈ e.1, -(2 ^ 64) < b ∧ b < 2 ^ 64
structure CsA where
  q : Addr
  n : Nat
  es : List Sig
  ok : SgOk n es
structure MaA extends CsA where
  ws : List Int
def edges (es : List Sig) (ws : List Int) : List Int := es.map fun e => e.2 * dot ws e.1
def marg (es : List Sig) (ws : List Int) : D := bestD (fun n r => r.foldl min n) (edges es ws) .non
def great (es : List Sig) : Int := match es.map fun e => dot e.1 e.1 with
  | [] => 0
  | n :: r => r.foldl max n
def sideB (m : Int) (es : List Sig) (ws : List Int) : Bool := match edges es ws with
  | [] => true
  | n :: r => decide (m * (r.foldl min n) * (r.foldl min n) ≤ great es * dot ws ws)
structure SbA extends MaA where
  m : Int
  hm : -(2 ^ 64) < m ∧ m < 2 ^ 64
  hw : ∀ b ∈ ws, -(2 ^ 64) < b ∧ b < 2 ^ 64
  he : ∀ x ∈ edges es ws, -(2 ^ 64) < x ∧ x < 2 ^ 64
  hg : -(2 ^ 64) < great es ∧ great es < 2 ^ 64
def partF (ws : List Int) (m : Int) : List (Str × D) := [("weights", .tup (ws.map D.int)), ("mistakes", .int m)]
def pwrong (ws : List Int) (e : Sig) : Bool := decide (e.2 * dot ws e.1 ≤ 0)
def partW (ws : List Int) (e : Sig) : List Int := if pwrong ws e = true then (ws.zip e.1).map fun p => p.1 + e.2 * p.2 else ws
def partM (ws : List Int) (e : Sig) (m : Int) : Int := if pwrong ws e = true then m + 1 else m
structure PsA where
  q : Addr
  ws : List Int
  m : Int
  e : Sig
  s : e.2 = 1 ∨ e.2 = -1
  z : (∀ b ∈ e.1, -(2 ^ 64) < b ∧ b < 2 ^ 64) ∧ e.1.length ≤ 1000
theorem foldl_min_mem : ∀ (r : List Int) (n : Int), r.foldl min n ∈ n :: r
  | [], n => List.mem_cons_self
  | a :: r, n => by
    have h := foldl_min_mem r (min n a)
    rw [List.foldl_cons]
    rcases List.mem_cons.mp h with e | e
    · rw [e]
      rcases Int.le_total n a with q | q
      · rw [Int.min_eq_left q]; exact List.mem_cons_self
      · rw [Int.min_eq_right q]; exact List.mem_cons_of_mem _ List.mem_cons_self
    · exact List.mem_cons_of_mem _ (List.mem_cons_of_mem _ e)
theorem one_len {n : Int} {xs : List Int} (h : ∀ x ∈ xs, x = n) : (ddp [] xs).length ≤ 1 := by
  have h1 := ddp_nodup xs [] List.nodup_nil
  have h2 : ∀ x ∈ ddp [] xs, x = n := fun x hx => by
    rcases (ddp_mem xs [] x).mp hx with q | q
    · cases q
    · exact h x q
  match hq : ddp [] xs with
  | [] => exact Nat.zero_le _
  | [_] => exact Nat.le_refl _
  | a :: b :: r =>
    rw [hq] at h1 h2
    have ea := h2 a List.mem_cons_self
    have eb := h2 b (List.mem_cons_of_mem _ List.mem_cons_self)
    rw [List.nodup_cons] at h1
    exact absurd (by rw [ea, eb]; exact List.mem_cons_self) h1.1
section
variable {P : Program} {w : World} {K : PySem.W.Frag} {mg : Str → Option Value} {base : Heap} {T : List Addr}
theorem in_ok (F : Fx P w K mg base) : Cal P w K mg base 2 (He.fAd K ("inner", none)) ["one", "other"] (spP w (Tb K) (fun x : InA => [rowT x.l x.as, rowT x.l' x.bs]) (fun x => .int (dot x.as x.bs))) := by
  obtain ⟨fd, Fc, hb⟩ := F.fn_inner
  refine ⟨⟨fd, LW.fn_ok Fc sc_in (fun x => [some (rowT x.l x.as), some (rowT x.l' x.bs), none, none]) (fun x A outer s H E hr => ?_), hb⟩, Fc.kp⟩
  have nd := sc_in.nd
  obtain ⟨tb, hT⟩ := F.tb_inner
  obtain ⟨l, l', as, bs, h⟩ := x
  have gk := gk_of (P := P) (w := w) (H := H) (E := E) (outer := outer) (s := s) tb hT hr nd
  refine pb_ret (pd_cast (pd_sum (k := 0) (own := [("a", 2), ("b", 3)]) (xs := as.zip bs) (kp := fun _ => true) (en := fun p => p.1 * p.2) (enc := pairD) (us := fun p => [.int p.1, .int p.2]) gk F.free_sum
    (pdi_zip (rowT_sv l as) (rowT_sv l' bs) F.free_zip (pd_var 0) (pd_var 1)) (genB_by (by kernel_rfl)) (fun Ag s H C cl code fp pn hr => pg_tup rfl (pgs_cons (pg_name nd (i := 2) rfl (Or.inl rfl) (.inr rfl)) (pgs_cons (pg_name nd (i := 3) rfl (Or.inl rfl) (.inr rfl)) pgs_nil))) (tgt_tup [2, 3]) (by decide) ⟨rowT_sv l as, rowT_sv l' bs⟩ ⟨zipD_map _ _ _ _, fun _ => rfl⟩
    (fun p hp Ag s H C cl code fp pn hr => pdts_nil) fun p hp hk Ag s H C cl code fp pn hr => pd_mul (.inr (h _ (List.of_mem_zip (a := p.1) (b := p.2) hp).2)) (pd_var 2) (pd_var 3)) ?_) ⟨rfl, rfl⟩
  unfold sumIf dot
  rw [filter_yes]
theorem cs_ok (F : Fx P w K mg base) : Cal P w K mg base 2 (He.fAd K ("check_signed", none)) ["examples"] (spC w (Tb K) (fun x : CsA => [.ref x.q]) (fun x => [some (x.q, .lst (x.es.map sD))]) (fun x d m => d = .lst (x.es.map sD) ∧ m = [some (x.q, .lst (x.es.map sD))])) := by
  obtain ⟨fd, Fc, hb⟩ := F.fn_check_signed
  refine ⟨⟨fd, LW.fn_ok Fc sc_cs (fun x => [some (.ref x.q), none, none, none]) (fun x A outer s H E hr => ?_), hb⟩, Fc.kp⟩
  have nd := sc_cs.nd
  obtain ⟨tb, hT⟩ := F.tb_check_signed
  obtain ⟨q, n, es, ok⟩ := x
  have gk := gk_of (P := P) (w := w) (H := H) (E := E) (outer := outer) (s := s) tb hT hr nd
  refine pb_setLc 1 (own := [("row", 2), ("sign", 3)]) (xs := es) (kp := fun _ => true) (enc := sD) (us := fun e => [.tup (e.1.map D.int), .int e.2]) (ed := sD) (pdi_list (ds := es.map sD) (LV.own 0) (pd_var 0)) nd (blkOk_by (by kernel_rfl)) (fun s H C cl fp => pg_tup rfl (pgs_cons (pg_name nd (i := 2) rfl (Or.inl rfl)) (pgs_cons (pg_name nd (i := 3) rfl (Or.inl rfl)) pgs_nil))) (tgt_tup [2, 3]) (by decide) (LV.own 0) ⟨rfl, fun _ => rfl⟩
    (Nat.le_trans ok.le (by decide)) (fun p hp s H C cl fp => pdts_nil) (fun p hp _ s H C cl fp => pd_tup (pdl_cons (pd_tupT F.free_tuple (pd_var 2)) (pdl_1 (pd_var 3)))) ?_
  rw [filter_yes]
  refine pb_ifno (pdt_cast (pdt_or (k := false) (l := false) (pdt_val (pd_cast (pd_any (k := 0) (own := [("row", 2), ("sign", 3)]) (xs := es) (kp := fun _ => true) (el := fun e => !([1, 0 - 1] : List Int).contains e.2) (enc := sD) (us := fun e => [.tup (e.1.map D.int), .int e.2]) gk F.free_any (pdi_list LV.dat (pd_var 1)) (genB_by (by kernel_rfl)) (fun Ag s H C cl code fp pn hr => pg_tup rfl (pgs_cons (pg_name nd (i := 2) rfl (Or.inl rfl) (.inr rfl)) (pgs_cons (pg_name nd (i := 3) rfl (Or.inl rfl) (.inr rfl)) pgs_nil))) (tgt_tup [2, 3]) (by decide) LV.dat ⟨rfl, fun _ => rfl⟩
      (fun e he Ag s H C cl code fp pn hr => pdts_nil) fun e he _ Ag s H C cl code fp pn hr => pd_ninT (ns := [1, 0 - 1]) (pd_var 3) (pd_tup (pdl_cons pd_int (pdl_1 (pd_sub pd_int pd_int))))) ?_))
    fun _ => pdt_cast (pdt_gt (i := ((ddp [] (es.map fun e => ((e.1.length : Nat) : Int))).length : Int)) (pd_cast (pd_lenD (kvs := (ddp [] (es.map fun e => ((e.1.length : Nat) : Int))).map (oneD D.int)) DV.dat F.free_len (pd_cast (pd_dictI (ps := es.map fun e => (((e.1.length : Nat) : Int), .int 1)) (da := .lst (es.map fun e => .tup [.int ((e.1.length : Nat) : Int), .int 1])) ?_ ?_ F.free_dict
      (pd_cast (pd_lc (own := [("row", 2), ("sign", 3)]) (xs := es) (kp := fun _ => true) (enc := sD) (us := fun e => [.tup (e.1.map D.int), .int e.2]) (ed := fun e => .tup [.int ((e.1.length : Nat) : Int), .int 1]) (pdi_list LV.dat (pd_var 1)) nd (blkOk_by (by kernel_rfl)) (fun s H C cl fp => pg_tup rfl (pgs_cons (pg_name nd (i := 2) rfl (Or.inl rfl)) (pgs_cons (pg_name nd (i := 3) rfl (Or.inl rfl)) pgs_nil))) (tgt_tup [2, 3]) (by decide) LV.dat ⟨rfl, fun _ => rfl⟩
        (Nat.le_trans ok.le (by decide)) (fun p hp s H C cl fp => pdts_nil) fun p hp _ s H C cl fp => pd_tup (pdl_cons (pd_cast (pd_lenT (ds := p.1.map D.int) F.free_len (pd_var 2)) (by rw [List.length_map])) (pdl_1 pd_int))) (by rw [filter_yes]))) ?_)) (by rw [List.length_map])) pd_int) ?_) rfl) (pb_ret (pd_var 1) ⟨rfl, rfl⟩)
  · have e : (es.any fun e => true && !([1, 0 - 1] : List Int).contains e.2) = false := List.any_eq_false.mpr fun e he => by
      rcases ok.s e he with h | h <;> rw [h] <;> decide
    rw [e]
  · rw [List.map_map, List.map_map]
    exact LV.dat
  · rw [List.length_map]
    exact Nat.le_trans ok.le (by decide)
  · have e : (es.map fun e => (((e.1.length : Nat) : Int), D.int 1)).map eI = (es.map fun e => ((e.1.length : Nat) : Int)).map (oneD D.int) := by
      rw [List.map_map, List.map_map]
      rfl
    rw [e, dmrg_ones encK_int]
  · have h := one_len (n := n) (xs := es.map fun e => ((e.1.length : Nat) : Int)) fun x hx => by
      obtain ⟨e, he, rfl⟩ := List.mem_map.mp hx
      rw [ok.w e he]
    exact decide_eq_false (by omega)
theorem ma_ok (F : Fx P w K mg base) : Cal P w K mg base 3 (He.fAd K ("margin", none)) ["examples", "weights"] (spC w (Tb K) (fun x : MaA => [.ref x.q, .lst (x.ws.map D.int)]) (fun x => [some (x.q, .lst (x.es.map sD))]) (fun x d m => d = marg x.es x.ws ∧ m = [some (x.q, .lst (x.es.map sD))])) := by
  obtain ⟨fd, Fc, hb⟩ := F.fn_margin
  refine ⟨⟨fd, LW.fn_ok Fc sc_ma (fun x => [some (.ref x.q), some (.lst (x.ws.map D.int)), none, none]) (fun x A outer s H E hr => ?_), hb⟩, Fc.kp⟩
  have nd := sc_ma.nd
  refine pb_ret (pd_bestDf (ns := edges x.es x.ws) (cr_minDf rfl (un_of hr (by decide))) (by decide +kernel) (da := .lst ((edges x.es x.ws).map D.int)) LV.dat F.free_min (pd_cast (pd_lc (own := [("row", 2), ("sign", 3)]) (xs := x.es) (kp := fun _ => true) (enc := sD) (us := fun e => [.tup (e.1.map D.int), .int e.2]) (ed := fun e => .int (e.2 * dot x.ws e.1))
    (pdi_list LV.dat (pd_ofR (pdr_cC x.toCsA (cs_ok F) (hr.mono (by decide)) F.glo_check_signed (pdl_1 (pd_var 0)) rfl Fram.all) fun d m ⟨m', e1, e2, e3⟩ => ⟨e2, e1.trans e3⟩)) nd (blkOk_by (by kernel_rfl)) (fun s H C cl fp => pg_tup rfl (pgs_cons (pg_name nd (i := 2) rfl (Or.inl rfl)) (pgs_cons (pg_name nd (i := 3) rfl (Or.inl rfl)) pgs_nil))) (tgt_tup [2, 3]) (by decide) LV.dat ⟨rfl, fun _ => rfl⟩
    (Nat.le_trans x.ok.le (by decide)) (fun p hp s H C cl fp => pdts_nil) fun p hp _ s H C cl fp => pd_mul (.inl (by rcases x.ok.s p hp with h | h <;> rw [h] <;> decide)) (pd_var 3)
      (pd_cC (val := fun y : InA => .int (dot y.as y.bs)) (⟨true, false, x.ws, p.1, x.ok.z p hp⟩ : InA) (in_ok F) (hr.mono (by decide)) F.glo_inner (pdl_cons (pd_var 1) (pdl_1 (pd_var 2))) rfl)) (by rw [filter_yes]; unfold edges; rw [List.map_map]; rfl)) pd_non) ⟨rfl, rfl⟩
theorem sb_ok (F : Fx P w K mg base) : Cal P w K mg base 4 (He.fAd K ("side_bound", none)) ["mistakes", "examples", "weights"] (spC w (Tb K) (fun x : SbA => [.int x.m, .ref x.q, .lst (x.ws.map D.int)]) (fun x => [some (x.q, .lst (x.es.map sD))]) (fun x d m => d = .bl (sideB x.m x.es x.ws) ∧ m = [some (x.q, .lst (x.es.map sD))])) := by
  obtain ⟨fd, Fc, hb⟩ := F.fn_side_bound
  refine ⟨⟨fd, LW.fn_ok Fc sc_sb (fun x => [some (.int x.m), some (.ref x.q), some (.lst (x.ws.map D.int)), none, none, none, none, none]) (fun x A outer s H E hr => ?_), hb⟩, Fc.kp⟩
  have nd := sc_sb.nd
  refine pb_set 3 (pd_ofR (pdr_cC x.toCsA (cs_ok F) (hr.mono (by decide)) F.glo_check_signed (pdl_1 (pd_var 1)) rfl Fram.all) fun d m ⟨m', e1, e2, e3⟩ => ⟨e2, e1.trans e3⟩) nd ?_
  refine pb_set (d := .int (great x.es)) 4 (pd_cast (pd_bestDf (ns := x.es.map fun e => dot e.1 e.1) (cr_maxDf rfl (un_of hr (by decide))) (by decide +kernel) (da := .lst ((x.es.map fun e => dot e.1 e.1).map D.int)) LV.dat F.free_max (pd_cast (pd_lc (own := [("row", 6), ("sign", 7)]) (xs := x.es) (kp := fun _ => true) (enc := sD) (us := fun e => [.tup (e.1.map D.int), .int e.2]) (ed := fun e => .int (dot e.1 e.1))
    (pdi_list LV.dat (pd_var 3)) nd (blkOk_by (by kernel_rfl)) (fun s H C cl fp => pg_tup rfl (pgs_cons (pg_name nd (i := 6) rfl (Or.inl rfl)) (pgs_cons (pg_name nd (i := 7) rfl (Or.inl rfl)) pgs_nil))) (tgt_tup [6, 7]) (by decide) LV.dat ⟨rfl, fun _ => rfl⟩
    (Nat.le_trans x.ok.le (by decide)) (fun p hp s H C cl fp => pdts_nil) fun p hp _ s H C cl fp => pd_cC (val := fun y : InA => .int (dot y.as y.bs)) (⟨false, false, p.1, p.1, x.ok.z p hp⟩ : InA) (in_ok F) (hr.mono (by decide)) F.glo_inner (pdl_cons (pd_var 6) (pdl_1 (pd_var 6))) rfl) (by rw [filter_yes, List.map_map]; rfl)) pd_int) ?_) nd ?_
  · unfold great bestD
    cases x.es.map fun e => dot e.1 e.1 <;> rfl
  refine pb_set 5 (pd_ofR (pdr_cC x.toMaA (ma_ok F) (hr.mono (by decide)) F.glo_margin (pdl_cons (pd_var 1) (pdl_1 (pd_var 2))) rfl Fram.all) fun d m ⟨m', e1, e2, e3⟩ => ⟨e2, e1.trans e3⟩) nd ?_
  unfold marg
  cases hq : edges x.es x.ws with
  | nil => exact pb_ret (pd_cast (pd_or2 (k := true) (l := true) (pd_cast (pd_isN (d := .non) (pd_var 5)) rfl) fun h => by cases h) (by unfold sideB; rw [hq]; rfl)) ⟨rfl, rfl⟩
  | cons n r =>
    have hm := x.he _ (by rw [hq]; exact foldl_min_mem r n)
    refine pb_ret (pd_cast (pd_or2 (k := false) (pd_cast (pd_isN (d := .int (r.foldl min n)) (pd_var 5)) rfl) fun _ => pd_le (i := x.m * (r.foldl min n) * (r.foldl min n)) (j := great x.es * dot x.ws x.ws) (pd_mul (.inr hm) (pd_mul (.inl x.hm) (pd_var 0) (pd_var 5)) (pd_var 5))
      (pd_mul (.inl x.hg) (pd_var 4) (pd_cC (val := fun y : InA => .int (dot y.as y.bs)) (⟨true, true, x.ws, x.ws, x.hw⟩ : InA) (in_ok F) (hr.mono (by decide)) F.glo_inner (pdl_cons (pd_var 2) (pdl_1 (pd_var 2))) rfl))) (by unfold sideB; rw [hq]; rfl)) ⟨rfl, rfl⟩
theorem Pi_ok (F : Fx P w K mg base) : Cal P w K mg base 1 (He.fAd K ("Parter", some "__init__")) ["self", "many"] (spC w T (fun x : NewA => [.ref x.q, .int x.n]) (fun x => [some (x.q, .obj (He.ga K "Parter") [])]) (fun x d m => d = .non ∧ m = [some (x.q, .obj (He.ga K "Parter") (partF (List.replicate x.n.toNat 0) 0))])) := by
  obtain ⟨fd, Fc, hb⟩ := F.fn_Parter_init
  refine ⟨⟨fd, LW.fn_ok Fc sc_Pi (fun x => [some (.ref x.q), some (.int x.n)]) (fun x A outer s H E hr => ?_), hb⟩, Fc.kp⟩
  obtain ⟨q, n, h1, h2⟩ := x
  refine pb_fld 0 (pd_repT1 (k := n) h1 h2 (pd_tup (pdl_1 pd_int)) (pd_var 1)) (fun m => pd_var 0) F.cls_Parter F.noat_Parter_weights ?_
  refine pb_fld 0 pd_int (fun m => pd_var 0) F.cls_Parter F.noat_Parter_mistakes (pb_nil ⟨rfl, ?_⟩)
  show [some (q, Ob.obj _ [("weights", D.tup (List.replicate n.toNat (.int 0))), ("mistakes", .int 0)])] = [some (q, Ob.obj _ [("weights", D.tup ((List.replicate n.toNat (0 : Int)).map D.int)), ("mistakes", .int 0)])]
  rw [List.map_replicate]
theorem Ps_ok (F : Fx P w K mg base) : Cal P w K mg base 3 (He.fAd K ("Parter", some "see")) ["self", "row", "sign"] (spC w (Tb K) (fun x : PsA => [.ref x.q, .tup (x.e.1.map D.int), .int x.e.2]) (fun x => [some (x.q, .obj (He.ga K "Parter") (partF x.ws x.m))])
    (fun x d m => d = .bl (pwrong x.ws x.e) ∧ m = [some (x.q, .obj (He.ga K "Parter") (partF (partW x.ws x.e) (partM x.ws x.e x.m)))])) := by
  obtain ⟨fd, Fc, hb⟩ := F.fn_Parter_see
  refine ⟨⟨fd, LW.fn_ok Fc sc_Ps (fun x => [some (.ref x.q), some (.tup (x.e.1.map D.int)), some (.int x.e.2), none, none, none]) (fun x A outer s H E hr => ?_), hb⟩, Fc.kp⟩
  have nd := sc_Ps.nd
  obtain ⟨q, ws, m, ⟨r, sg⟩, hs, hz, hl⟩ := x
  have hc : -(2 ^ 64) < sg ∧ sg < 2 ^ 64 := by
    have hs : sg = 1 ∨ sg = -1 := hs
    rcases hs with h | h <;> rw [h] <;> decide
  refine pb_set 3 (pd_le (i := sg * dot ws r) (pd_mul (.inl hc) (pd_var 2) (pd_cC (val := fun y : InA => .int (dot y.as y.bs)) (⟨false, false, ws, r, hz⟩ : InA) (in_ok F) (hr.mono (by decide)) F.glo_inner (pdl_cons (pd_fld (OV.own 0) F.cls_Parter F.noat_Parter_weights (pd_var 0)) (pdl_1 (pd_var 1))) rfl)) pd_int) nd ?_
  refine pb_if (k := pwrong ws (r, sg)) (Nx1 := fun ρ' m' => ρ' = [some (.ref q), some (.tup (r.map D.int)), some (.int sg), some (.bl (pwrong ws (r, sg))), none, none] ∧ m' = [some (q, .obj (He.ga K "Parter") (partF (partW ws (r, sg)) (partM ws (r, sg) m)))]) (pdt_val (pd_var 3)) (fun hk => ?_) (fun hk => ?_) fun ρ' m' ⟨e1, e2⟩ => ?_
  · refine pb_fldaug 0 (pd_var 0) rfl rfl pd_int iop_add (ok_i0 (i := m)) F.cls_Parter F.noat_Parter_mistakes (Nat.le_of_ble_eq_true rfl) ?_
    refine pb_fld 0 (pd_tupL LV.dat F.free_tuple (pd_lc (own := [("weight", 4), ("part", 5)]) (xs := ws.zip r) (kp := fun _ => true) (enc := pairD) (us := fun p => [.int p.1, .int p.2]) (ed := fun p => .int (p.1 + sg * p.2))
      (pdi_zip SV.tup SV.tup F.free_zip (pd_fld (OV.own 0) F.cls_Parter F.noat_Parter_weights (pd_var 0)) (pd_var 1)) nd (blkOk_by (by kernel_rfl)) (fun s H C cl fp => pg_tup rfl (pgs_cons (pg_name nd (i := 4) rfl (Or.inl rfl)) (pgs_cons (pg_name nd (i := 5) rfl (Or.inl rfl)) pgs_nil))) (tgt_tup [4, 5]) (by decide) ⟨.tup, .tup⟩ ⟨zipD_map _ _ _ _, fun _ => rfl⟩
      (Nat.le_trans (by rw [List.length_zip]; exact Nat.min_le_right _ _) (Nat.le_trans hl (by decide))) (fun p hp s H C cl fp => pdts_nil) fun p hp _ s H C cl fp => pd_add (pd_var 4) (pd_mul (.inl hc) (pd_var 2) (pd_var 5)))) (fun m => pd_var 0) F.cls_Parter F.noat_Parter_weights (pb_nil ⟨rfl, ?_⟩)
    rw [filter_yes]
    unfold partW partM
    rw [if_pos hk, if_pos hk]
    show [some (q, Ob.obj _ [("weights", D.tup _), ("mistakes", .int _)])] = [some (q, Ob.obj _ [("weights", D.tup (((ws.zip r).map fun p => p.1 + sg * p.2).map D.int)), ("mistakes", .int (m + 1))])]
    rw [List.map_map]
    rfl
  · refine pb_nil ⟨rfl, ?_⟩
    unfold partW partM
    rw [if_neg (by rw [hk]; exact Bool.false_ne_true), if_neg (by rw [hk]; exact Bool.false_ne_true)]
  · subst e1 e2
    exact pb_ret (pd_var 3) ⟨rfl, rfl⟩
end
end H65

set_option Elab.async false
set_option linter.all false
set_option maxRecDepth 100000
set_option maxHeartbeats 4000000
/-! k65: Winnow, _law_answers. -/
namespace H65
open PySem PySem.Spec PyProof.Rows L2 LW
theorem sc_Wi : FnScope ["self", "many"] ["self", "many"] (defScope s_Winnow_init) := ⟨rfl, rfl, rfl, by decide +kernel, rfl, by decide +kernel, by decide +kernel⟩
theorem sc_Wg : FnScope ["self", "point", "whole", "weight", "bit"] ["self", "point"] (defScope s_Winnow_guess) := ⟨rfl, rfl, rfl, by decide +kernel, rfl, by decide +kernel, by decide +kernel⟩
theorem sc_Ws : FnScope ["self", "point", "take", "guess", "weight", "bit"] ["self", "point", "take"] (defScope s_Winnow_see) := ⟨rfl, rfl, rfl, by decide +kernel, rfl, by decide +kernel, by decide +kernel⟩
theorem sc_an : FnScope ["dice", "many", "most", "turn", "k"] ["dice", "many", "most"] (defScope s_law_answers) := ⟨rfl, rfl, rfl, by decide +kernel, rfl, by decide +kernel, by decide +kernel⟩
/-- many, weights, lacks, spares -/
structure Win where
  n : Int
  ws : List Int
  la : Int
  sp : Int
def winF (x : Win) : List (Str × D) := [("many", .int x.n), ("weights", .lst (x.ws.map D.int)), ("lacks", .int x.la), ("spares", .int x.sp)]
def wsum (ws pt : List Int) : Int := sumIf (ws.zip pt) (fun p => decide (p.2 = 1)) (·.1)
def wguess (x : Win) (pt : List Int) : Bool := decide (x.n ≤ 2 * wsum x.ws pt) && decide (0 < wsum x.ws pt)
def wdead (ws pt : List Int) : Bool := (ws.zip pt).all fun p => !decide (p.2 = 1) || decide (p.1 = 0)
def wseen (x : Win) (pt : List Int) (take : Bool) : Win :=
  if (take && !wguess x pt) = true then { x with la := x.la + 1, ws := (x.ws.zip pt).map fun p => if decide (p.2 = 1) = true then 2 * p.1 else p.1 }
  else if (wguess x pt && !take) = true then { x with sp := x.sp + 1, ws := (x.ws.zip pt).map fun p => if decide (p.2 = 1) = true then 0 else p.1 } else x
structure WgA where
  q : Addr
  x : Win
  pt : List Int
  hl : pt.length ≤ 1000
structure WsA extends WgA where
  take : Bool
  hd : take = true → wdead x.ws pt = false
abbrev winO (C : Addr) (q : Addr) (x : Win) : Mem := [some (q, .obj C (winF x))]
theorem if_int (xs : List (Int × Int)) (f g : Int × Int → Int) : (xs.map fun p => if decide (p.2 = 1) = true then D.int (f p) else D.int (g p)) = (xs.map fun p => if decide (p.2 = 1) = true then f p else g p).map D.int := by
  rw [List.map_map]
  refine List.map_congr_left fun p _ => ?_
  show _ = D.int (if decide (p.2 = 1) = true then f p else g p)
  split <;> rfl
section
variable {P : Program} {w : World} {K : PySem.W.Frag} {mg : Str → Option Value} {base : Heap} {T : List Addr}
theorem Wi_ok (F : Fx P w K mg base) : Cal P w K mg base 1 (He.fAd K ("Winnow", some "__init__")) ["self", "many"] (spC w T (fun x : NewA => [.ref x.q, .int x.n]) (fun x => [some (x.q, .obj (He.ga K "Winnow") [])]) (fun x d m => d = .non ∧ m = winO (He.ga K "Winnow") x.q ⟨x.n, List.replicate x.n.toNat 1, 0, 0⟩)) := by
  obtain ⟨fd, Fc, hb⟩ := F.fn_Winnow_init
  refine ⟨⟨fd, LW.fn_ok Fc sc_Wi (fun x => [some (.ref x.q), some (.int x.n)]) (fun x A outer s H E hr => ?_), hb⟩, Fc.kp⟩
  obtain ⟨q, n, h1, h2⟩ := x
  refine pb_fld 0 (pd_var 1) (fun m => pd_var 0) F.cls_Winnow F.noat_Winnow_many ?_
  refine pb_fld 0 (pd_repL (k := n) LV.dat (by omega) (by omega) (by show 1 * n.toNat ≤ 16777216; omega) (pd_lst (pdl_1 pd_int)) (pd_var 1)) (fun m => pd_var 0) F.cls_Winnow F.noat_Winnow_weights ?_
  refine pb_fld 0 pd_int (fun m => pd_var 0) F.cls_Winnow F.noat_Winnow_lacks ?_
  refine pb_fld 0 pd_int (fun m => pd_var 0) F.cls_Winnow F.noat_Winnow_spares (pb_nil ⟨rfl, ?_⟩)
  rw [flat_rep]
  show [some (q, Ob.obj _ [("many", _), ("weights", D.lst (List.replicate n.toNat (.int 1))), ("lacks", _), ("spares", _)])] = [some (q, Ob.obj _ [("many", _), ("weights", D.lst ((List.replicate n.toNat (1 : Int)).map D.int)), ("lacks", _), ("spares", _)])]
  rw [List.map_replicate]
theorem Wg_ok (F : Fx P w K mg base) : Cal P w K mg base 2 (He.fAd K ("Winnow", some "guess")) ["self", "point"] (spC w (Tb K) (fun x : WgA => [.ref x.q, .tup (x.pt.map D.int)]) (fun x => winO (He.ga K "Winnow") x.q x.x) (fun x d m => d = .bl (wguess x.x x.pt) ∧ m = winO (He.ga K "Winnow") x.q x.x)) := by
  obtain ⟨fd, Fc, hb⟩ := F.fn_Winnow_guess
  refine ⟨⟨fd, LW.fn_ok Fc sc_Wg (fun x => [some (.ref x.q), some (.tup (x.pt.map D.int)), none, none, none]) (fun x A outer s H E hr => ?_), hb⟩, Fc.kp⟩
  have nd := sc_Wg.nd
  obtain ⟨tb, hT⟩ := F.tb_Winnow_guess
  refine pb_set 2 (pd_sum (k := 0) (own := [("weight", 3), ("bit", 4)]) (xs := x.x.ws.zip x.pt) (kp := fun p => decide (p.2 = 1)) (en := (·.1)) (enc := pairD) (us := fun p => [.int p.1, .int p.2]) (gk_of tb hT hr nd) F.free_sum
    (pdi_zip SV.dat SV.tup F.free_zip (pd_fld (OV.own 0) F.cls_Winnow F.noat_Winnow_weights (pd_var 0)) (pd_var 1)) (genB_by (by kernel_rfl)) (fun Ag s H C cl code fp pn hr => pg_tup rfl (pgs_cons (pg_name nd (i := 3) rfl (Or.inl rfl) (.inr rfl)) (pgs_cons (pg_name nd (i := 4) rfl (Or.inl rfl) (.inr rfl)) pgs_nil))) (tgt_tup [3, 4]) (by decide) ⟨.dat, .tup⟩ ⟨zipD_map _ _ _ _, fun _ => rfl⟩
    (fun p hp Ag s H C cl code fp pn hr => pdts_one (pdt_eqI (pd_var 4) pd_int)) fun p hp hk Ag s H C cl code fp pn hr => pd_var 3) nd ?_
  exact pb_ret (pd_and2 (pd_ge (i := 2 * wsum x.x.ws x.pt) (pd_mul (.inl ⟨by decide, by decide⟩) pd_int (pd_var 2)) (pd_fld (OV.own 0) F.cls_Winnow F.noat_Winnow_many (pd_var 0))) fun _ => pd_gt (pd_var 2) pd_int) ⟨rfl, rfl⟩
theorem Ws_ok (F : Fx P w K mg base) : Cal P w K mg base 3 (He.fAd K ("Winnow", some "see")) ["self", "point", "take"] (spC w (Tb K) (fun x : WsA => [.ref x.q, .tup (x.pt.map D.int), .bl x.take]) (fun x => winO (He.ga K "Winnow") x.q x.x) (fun x d m => d = .bl (wguess x.x x.pt) ∧ m = winO (He.ga K "Winnow") x.q (wseen x.x x.pt x.take))) := by
  obtain ⟨fd, Fc, hb⟩ := F.fn_Winnow_see
  refine ⟨⟨fd, LW.fn_ok Fc sc_Ws (fun x => [some (.ref x.q), some (.tup (x.pt.map D.int)), some (.bl x.take), none, none, none]) (fun x A outer s H E hr => ?_), hb⟩, Fc.kp⟩
  have nd := sc_Ws.nd
  obtain ⟨tb, hT⟩ := F.tb_Winnow_see
  have gk := gk_of (P := P) (w := w) (H := H) (E := E) (outer := outer) (s := s) tb hT hr nd
  refine pb_set 3 (pd_ofR (pdr_mC x.toWgA (Wg_ok F) (hr.mono (by decide)) F.cls_Winnow F.meth_Winnow_guess (pd_var 0) (OV.own 0) (pdl_1 (pd_var 1)) rfl Fram.all) fun d m ⟨m', e1, e2, e3⟩ => ⟨e2, e1.trans e3⟩) nd ?_
  obtain ⟨⟨q, ⟨n, ws, la, sp⟩, pt, hl⟩, take, hd⟩ := x
  have zl : (ws.zip pt).length ≤ 16000000 := by
    rw [List.length_zip]
    have : pt.length ≤ 1000 := hl
    omega
  refine pb_ifno (pdt_cast (pdt_and (k := take) (l := wdead ws pt) (pdt_val (pd_var 2)) fun _ => pdt_val (pd_all (k := 1) (own := [("weight", 4), ("bit", 5)]) (xs := ws.zip pt) (kp := fun p => decide (p.2 = 1)) (el := fun p => decide (p.1 = 0)) (enc := pairD) (us := fun p => [.int p.1, .int p.2]) gk F.free_all
    (pdi_zip SV.dat SV.tup F.free_zip (pd_fld (OV.own 0) F.cls_Winnow F.noat_Winnow_weights (pd_var 0)) (pd_var 1)) (genB_by (by kernel_rfl)) (fun Ag s H C cl code fp pn hr => pg_tup rfl (pgs_cons (pg_name nd (i := 4) rfl (Or.inl rfl) (.inr rfl)) (pgs_cons (pg_name nd (i := 5) rfl (Or.inl rfl) (.inr rfl)) pgs_nil))) (tgt_tup [4, 5]) (by decide) ⟨.dat, .tup⟩ ⟨zipD_map _ _ _ _, fun _ => rfl⟩
    (fun p hp Ag s H C cl code fp pn hr => pdts_one (pdt_eqI (pd_var 5) pd_int)) fun p hp hk Ag s H C cl code fp pn hr => pd_eqI (pd_var 4) pd_int)) (by
      have hd : take = true → wdead ws pt = false := hd
      cases take with
      | false => rfl
      | true => rw [hd rfl]; rfl)) ?_
  refine pb_if (k := take && !wguess ⟨n, ws, la, sp⟩ pt) (Nx1 := fun ρ' m' => ρ' = [some (.ref q), some (.tup (pt.map D.int)), some (.bl take), some (.bl (wguess ⟨n, ws, la, sp⟩ pt)), none, none] ∧ m' = winO (He.ga K "Winnow") q (if (take && !wguess ⟨n, ws, la, sp⟩ pt) = true then ⟨n, (ws.zip pt).map fun p => if decide (p.2 = 1) = true then 2 * p.1 else p.1, la + 1, sp⟩ else ⟨n, ws, la, sp⟩))
    (pdt_and (pdt_val (pd_var 2)) fun _ => pdt_not (pdt_val (pd_var 3))) (fun hk => ?_) (fun hk => ?_) fun ρ' m' ⟨e1, e2⟩ => ?_
  · refine pb_fldaug 0 (pd_var 0) rfl rfl pd_int iop_add (ok_i0 (i := la)) F.cls_Winnow F.noat_Winnow_lacks (Nat.le_of_ble_eq_true rfl) ?_
    refine pb_fld 0 (pd_lc (own := [("weight", 4), ("bit", 5)]) (xs := ws.zip pt) (kp := fun _ => true) (enc := pairD) (us := fun p => [.int p.1, .int p.2]) (ed := fun p => if decide (p.2 = 1) = true then .int (2 * p.1) else .int p.1)
      (pdi_zip SV.dat SV.tup F.free_zip (pd_fld (OV.own 0) F.cls_Winnow F.noat_Winnow_weights (pd_var 0)) (pd_var 1)) nd (blkOk_by (by kernel_rfl)) (fun s H C cl fp => pg_tup rfl (pgs_cons (pg_name nd (i := 4) rfl (Or.inl rfl)) (pgs_cons (pg_name nd (i := 5) rfl (Or.inl rfl)) pgs_nil))) (tgt_tup [4, 5]) (by decide) ⟨.dat, .tup⟩ ⟨zipD_map _ _ _ _, fun _ => rfl⟩
      zl (fun p hp s H C cl fp => pdts_nil) fun p hp _ s H C cl fp => pd_if (pdt_eqI (pd_var 5) pd_int) (fun _ => pd_mul (.inl ⟨by decide, by decide⟩) pd_int (pd_var 4)) fun _ => pd_var 4) (fun m => pd_var 0) F.cls_Winnow F.noat_Winnow_weights (pb_nil ⟨rfl, ?_⟩)
    rw [filter_yes, if_pos hk, if_int]
    rfl
  · refine pb_nil ⟨rfl, ?_⟩
    rw [if_neg (by rw [hk]; exact Bool.false_ne_true)]
    rfl
  · subst e1 e2
    refine pb_if (k := wguess ⟨n, ws, la, sp⟩ pt && !take) (Nx1 := fun ρ' m' => ρ' = [some (.ref q), some (.tup (pt.map D.int)), some (.bl take), some (.bl (wguess ⟨n, ws, la, sp⟩ pt)), none, none] ∧ m' = winO (He.ga K "Winnow") q (wseen ⟨n, ws, la, sp⟩ pt take))
      (pdt_and (pdt_val (pd_var 3)) fun _ => pdt_not (pdt_val (pd_var 2))) (fun hk => ?_) (fun hk => ?_) fun ρ' m' ⟨e1, e2⟩ => ?_
    · have hk' : (take && !wguess ⟨n, ws, la, sp⟩ pt) = false := by
        cases take with
        | false => rfl
        | true => rw [Bool.and_eq_true] at hk; exact absurd hk.2 (by decide)
      rw [hk', if_neg Bool.false_ne_true]
      refine pb_fldaug 0 (pd_var 0) rfl rfl pd_int iop_add (ok_i0 (i := sp)) F.cls_Winnow F.noat_Winnow_spares (Nat.le_of_ble_eq_true rfl) ?_
      refine pb_fld 0 (pd_lc (own := [("weight", 4), ("bit", 5)]) (xs := ws.zip pt) (kp := fun _ => true) (enc := pairD) (us := fun p => [.int p.1, .int p.2]) (ed := fun p => if decide (p.2 = 1) = true then .int 0 else .int p.1)
        (pdi_zip SV.dat SV.tup F.free_zip (pd_fld (OV.own 0) F.cls_Winnow F.noat_Winnow_weights (pd_var 0)) (pd_var 1)) nd (blkOk_by (by kernel_rfl)) (fun s H C cl fp => pg_tup rfl (pgs_cons (pg_name nd (i := 4) rfl (Or.inl rfl)) (pgs_cons (pg_name nd (i := 5) rfl (Or.inl rfl)) pgs_nil))) (tgt_tup [4, 5]) (by decide) ⟨.dat, .tup⟩ ⟨zipD_map _ _ _ _, fun _ => rfl⟩
        zl (fun p hp s H C cl fp => pdts_nil) fun p hp _ s H C cl fp => pd_if (pdt_eqI (pd_var 5) pd_int) (fun _ => pd_int) fun _ => pd_var 4) (fun m => pd_var 0) F.cls_Winnow F.noat_Winnow_weights (pb_nil ⟨rfl, ?_⟩)
      unfold wseen
      rw [filter_yes, if_int, hk', if_neg Bool.false_ne_true, if_pos hk]
      rfl
    · refine pb_nil ⟨rfl, ?_⟩
      unfold wseen
      rw [hk]
      by_cases h : (take && !wguess ⟨n, ws, la, sp⟩ pt) = true
      · rw [if_pos h, if_pos h]
      · rw [if_neg h, if_neg h, if_neg Bool.false_ne_true]
    · subst e1 e2
      exact pb_ret (pd_var 3) ⟨rfl, rfl⟩
/-! the rules of the law -/
def bitR (c : Dice) (n : Nat) : Rul := (List.range n).map fun i => decide (rollV (rollsC c 2 i) 2 = 1)
def ansC (c : Dice) (n : Nat) : Nat → Dice
  | 0 => c
  | i + 1 => rollsC (ansC c n i) 2 n
def ansN (c : Dice) (m : Int) : Nat := (1 + rollV c m).toNat
def ansR (c : Dice) (n : Nat) (m : Int) : List Rul := srtE rD (ddp [] ((List.range (ansN c m)).map fun i => bitR (ansC (rollC c m) n i) n))
def ansE (c : Dice) (n : Nat) (m : Int) : Dice := ansC (rollC c m) n (ansN c m)
structure AnA where
  q : Addr
  c : Dice
  n : Nat
  m : Int
  h : 0 < n ∧ n ≤ 1000 ∧ 0 < m ∧ m ≤ 900
theorem bitR_len (c : Dice) (n : Nat) : (bitR c n).length = n := by simp [bitR]
theorem ansN_le (c : Dice) {m : Int} (h : 0 < m) (h2 : m ≤ 900) : 0 < ansN c m ∧ ansN c m ≤ 900 := by
  have := rollV_range c h
  unfold ansN
  omega
theorem an_ok (F : Fx P w K mg base) : Cal P w K mg base 2 (He.fAd K ("_law_answers", none)) ["dice", "many", "most"] (spC w T (fun x : AnA => [.ref x.q, .int x.n, .int x.m]) (fun x => [some (x.q, .lst (diceD x.c))]) (fun x d m => d = .lst ((ansR x.c x.n x.m).map rD) ∧ m = [some (x.q, .lst (diceD (ansE x.c x.n x.m)))])) := by
  obtain ⟨fd, Fc, hb⟩ := F.fn_law_answers
  refine ⟨⟨fd, LW.fn_ok Fc sc_an (fun x => [some (.ref x.q), some (.int x.n), some (.int x.m), none, none]) (fun x A outer s H E hr => ?_), hb⟩, Fc.kp⟩
  have nd := sc_an.nd
  obtain ⟨q, c, n, m, hn0, hn1, hm0, hm1⟩ := x
  obtain ⟨a0, a1⟩ := ansN_le c hm0 hm1
  refine pb_ret (pd_cast (pd_sortDic (kvs := (ddp [] ((List.range (ansN c m)).map fun i => bitR (ansC (rollC c m) n i) n)).map (oneD rD)) DV.dat ?_ (un_of hr (by decide)) F.free_sorted (pd_cast (pd_dictH (kvs := ((List.range (ansN c m)).map fun i => bitR (ansC (rollC c m) n i) n).map (oneD rD)) (da := .lst ((List.range (ansN c m)).map fun i => .tup [rD (bitR (ansC (rollC c m) n i) n), .int 1])) (un_of hr (by decide)) (by rw [one_pr, List.map_map]; exact LV.dat) ?_ ?_ ?_ F.free_dict
    (pd_cast (pd_lcN (Ms := fun i => [some (q, .lst (diceD (ansC (rollC c m) n i)))]) (Mt := fun i => [some (q, .lst (diceD (ansC (rollC c m) n i)))]) (kp := fun _ => true) (el := fun i => .tup [rD (bitR (ansC (rollC c m) n i) n), .int 1]) (own := [("turn", 3)]) 3
      (pdi_range1 (j := 1 + rollV c m) F.free_range (pd_add pd_int (pd_roll F 0 hm0 (by omega) hr (pd_var 0) (pd_var 2))) ?_ ?_) nd (blkOk_by (by kernel_rfl)) (fun s H C cl fp => pg_name nd rfl (Or.inl rfl)) (tgt_name 3) (by decide) rfl (fun _ _ h => by cases h) (by show (1 + rollV c m).toNat ≤ 16000000; exact Nat.le_trans a1 (by decide))
      (fun i hi s H C cl fp => pdts_nil) fun i hi _ s H C cl fp => pd_tup (pdl_cons (pd_tupL LV.dat F.free_tuple (pd_cast (pd_lcN (Ms := fun i' => [some (q, .lst (diceD (rollsC (ansC (rollC c m) n i) 2 i')))]) (Mt := fun i' => [some (q, .lst (diceD (rollsC (ansC (rollC c m) n i) 2 i')))]) (kp := fun _ => true) (el := fun i' => .bl (decide (rollV (rollsC (ansC (rollC c m) n i) 2 i') 2 = 1))) (own := [("k", 4)]) 4
        (pdi_range1 (j := n) F.free_range (pd_var 1) (by omega) (by omega)) nd (blkOk_by (by kernel_rfl)) (fun s H C cl fp => pg_name nd rfl (Or.inl rfl)) (tgt_name 4) (by decide) rfl (fun _ _ h => by cases h) (by omega)
        (fun i hi s H C cl fp => pdts_nil) fun i hi _ s H C cl fp => pd_eqI (pd_roll F 0 (by decide) (by decide) hr (pd_var 0) pd_int) pd_int) (by rw [given_all, Int.toNat_natCast]; unfold bitR; rw [List.map_map]; rfl))) (pdl_1 pd_int))) (by rw [given_all]; rfl))) (by rw [dmrg_ones eK]))) ?_) ⟨rfl, rfl⟩
  · rw [keys_one]
    refine rSrt (Nat.le_trans (ddp_len _ _) (by rw [List.length_map, List.length_range]; simp only [List.length_nil]; omega)) fun r hr => ?_
    rcases (ddp_mem _ _ r).mp hr with h | h
    · cases h
    · obtain ⟨i, _, rfl⟩ := List.mem_map.mp h
      rw [bitR_len]
      exact hn0
  · exact fun p hp => by obtain ⟨r, _, rfl⟩ := List.mem_map.mp hp; rfl
  · exact fun p hp => by obtain ⟨r, _, rfl⟩ := List.mem_map.mp hp; exact ⟨_, eK.nk r, Nat.le_trans (eK.dep r) (by decide)⟩
  · rw [List.length_map, List.length_map, List.length_range]
    exact Nat.le_trans a1 (by decide)
  · have := rollV_range c hm0
    omega
  · have := rollV_range c hm0
    omega
  · rw [keys_one, sortD_enc]
    rfl
end
end H65

set_option Elab.async false
set_option linter.all false
set_option maxRecDepth 100000
set_option maxHeartbeats 1000000
/-! k65, plain laws: the learner of ands, winnow. -/
namespace H65
open PySem PySem.Spec PyProof.Rows L2 LW
/-! ### the learner -/
def goodF (bits : Bits) (pt : List Int) : Bool := bits.all fun p => decide (ptAt pt p.1 = p.2)
structure BitsOk (n : Nat) (bits : Bits) : Prop where
  nd : (bits.map (·.1)).Nodup
  rg : ∀ p ∈ bits, 0 ≤ p.1 ∧ p.1 < n
structure PlI (n : Nat) (bits : Bits) (trues : List (List Int)) (b : Option Bits) (pm : Int) : Prop where
  ok : BOk n b
  no : b = none → pm = 0 ∧ trues = []
  le : ∀ ps, b = some ps → pm + ps.length ≤ n + 1 ∧ ∀ p ∈ bits, p ∈ ps
  tr : ∀ t ∈ trues, hasF b t = true
theorem PlI.zero (n : Nat) (bits : Bits) : PlI n bits [] none 0 :=
  ⟨⟨fun ps h => (by cases h)⟩, fun _ => ⟨rfl, rfl⟩, fun ps h => (by cases h), fun t h => (by cases h)⟩
theorem PlI.bound {n : Nat} {bits : Bits} {trues : List (List Int)} {b : Option Bits} {pm : Int} (h : PlI n bits trues b pm) : pm ≤ n + 1 := by
  cases b with
  | none => have := (h.no rfl).1; omega
  | some ps => have := (h.le ps rfl).1; omega
theorem PlI.take {n : Nat} {bits : Bits} {trues : List (List Int)} {b : Option Bits} {pm : Int} (h : PlI n bits trues b pm) {pt : List Int} (q : hasF b pt = true) : goodF bits pt = true := by
  cases b with
  | none => cases q
  | some ps =>
    refine List.all_eq_true.mpr fun p hp => ?_
    exact List.all_eq_true.mp q p ((h.le ps rfl).2 p hp)
theorem iotaB_mem {pt : List Int} {k v : Int} (h0 : 0 ≤ k) (h1 : k < pt.length) (e : ptAt pt k = v) : (k, v) ∈ iotaB pt := by
  unfold iotaB
  refine List.mem_map.mpr ⟨k.toNat, List.mem_range.mpr (by omega), ?_⟩
  have : ((k.toNat : Nat) : Int) = k := by omega
  rw [this, ← e]
  rfl
theorem iotaB_has (pt : List Int) : hasF (some (iotaB pt)) pt = true := by
  refine List.all_eq_true.mpr fun p hp => ?_
  obtain ⟨i, hi, rfl⟩ := List.mem_map.mp hp
  exact decide_eq_true rfl
theorem PlI.step {n : Nat} {bits : Bits} {trues : List (List Int)} {b : Option Bits} {pm : Int} (ob : BitsOk n bits) (h : PlI n bits trues b pm) {pt : List Int} (hl : pt.length = n) (hn : n ≤ 1000) :
    PlI n bits (trues ++ if goodF bits pt = true then [pt] else []) (learnB b pt (goodF bits pt)) (learnM b pt (goodF bits pt) pm) := by
  unfold learnB learnM
  cases hg : goodF bits pt with
  | false =>
    rw [if_neg Bool.false_ne_true, List.append_nil]
    exact h
  | true =>
    rw [if_pos rfl]
    have hg' := List.all_eq_true.mp hg
    cases hh : hasF b pt with
    | true =>
      show PlI n bits (trues ++ [pt]) b pm
      refine ⟨h.ok, fun e => (by rw [e] at hh; cases hh), h.le, fun t ht => ?_⟩
      rcases List.mem_append.mp ht with ht | ht
      · exact h.tr t ht
      · rw [List.mem_singleton.mp ht]; exact hh
    | false =>
      show PlI n bits (trues ++ [pt]) (some (wideF b pt)) (pm + 1)
      cases b with
      | none =>
        obtain ⟨e1, e2⟩ := h.no rfl
        subst e1 e2
        refine ⟨⟨fun ps e => ?_⟩, (fun e => by cases e), fun ps e => ?_, fun t ht => ?_⟩
        · cases e
          refine ⟨iotaB_keys pt, by unfold wideF iotaB; rw [List.length_map, List.length_range]; omega, fun p hp => ?_⟩
          obtain ⟨i, hi, rfl⟩ := List.mem_map.mp hp
          have := List.mem_range.mp hi
          show (0 : Int) ≤ (i : Nat) ∧ ((i : Nat) : Int) < n
          omega
        · cases e
          refine ⟨by unfold wideF iotaB; rw [List.length_map, List.length_range]; show (0 : Int) + 1 + _ ≤ _; omega, fun p hp => ?_⟩
          obtain ⟨r1, r2⟩ := ob.rg p hp
          exact iotaB_mem r1 (by rw [hl]; exact r2) (of_decide_eq_true (hg' p hp))
        · rw [List.nil_append] at ht
          rw [List.mem_singleton.mp ht]
          exact iotaB_has pt
      | some ps =>
        obtain ⟨h1, h2⟩ := h.le ps rfl
        obtain ⟨k1, k2, k3⟩ := h.ok.h ps rfl
        have sh : ∀ {t : List Int}, hasF (some ps) t = true → hasF (some (wideF (some ps) pt)) t = true := fun {t} q => by
          refine List.all_eq_true.mpr fun p hp => ?_
          exact List.all_eq_true.mp q p (List.mem_filter.mp hp).1
        refine ⟨⟨fun ps' e => ?_⟩, (fun e => by cases e), fun ps' e => ?_, fun t ht => ?_⟩
        · cases e
          exact ⟨k1.sublist (List.Sublist.map _ List.filter_sublist), Nat.le_trans (List.length_filter_le _ _) k2, fun p hp => k3 p (List.mem_filter.mp hp).1⟩
        · cases e
          refine ⟨?_, fun p hp => List.mem_filter.mpr ⟨h2 p hp, hg' p hp⟩⟩
          have lt : (wideF (some ps) pt).length < ps.length := by
            show (ps.filter fun p => decide (ptAt pt p.1 = p.2)).length < ps.length
            refine Nat.lt_of_le_of_ne (List.length_filter_le _ _) fun e => ?_
            have := List.filter_eq_self.mp (List.filter_sublist.eq_of_length e)
            have hh : (ps.all fun p => decide (ptAt pt p.1 = p.2)) = false := hh
            rw [List.all_eq_true.mpr this] at hh
            cases hh
          show pm + 1 + _ ≤ _
          omega
        · rcases List.mem_append.mp ht with ht | ht
          · exact sh (h.tr t ht)
          · rw [List.mem_singleton.mp ht]
            exact List.all_eq_true.mpr fun p hp => (List.mem_filter.mp hp).2
theorem getB_mem {k v : Int} : ∀ {ps : Bits}, (ps.map (·.1)).Nodup → (k, v) ∈ ps → getB ps k = some v
  | [], _, h => by cases h
  | q :: r, hn, h => by
    rw [List.map_cons, List.nodup_cons] at hn
    unfold getB
    rw [List.find?_cons]
    rcases List.mem_cons.mp h with e | e
    · subst e
      rw [decide_eq_true rfl]
      rfl
    · have hne : q.1 ≠ k := fun z => hn.1 (z ▸ List.mem_map.mpr ⟨(k, v), e, rfl⟩)
      rw [decide_eq_false hne]
      exact getB_mem hn.2 e
theorem PlI.cov {n : Nat} {bits : Bits} {trues : List (List Int)} {b : Option Bits} {pm : Int} (h : PlI n bits trues b pm) : covF (some bits) b = true := by
  cases b with
  | none => rfl
  | some ps => exact List.all_eq_true.mpr fun p hp => decide_eq_true (getB_mem (h.ok.h ps rfl).1 ((h.le ps rfl).2 p hp))
/-! ### winnow -/
def onF (pl : List Int) (pt : List Int) : Bool := pl.any fun p => decide (ptAt pt p = 1)
def sumN (pl : List Int) (d : Int → Nat) : Nat := (pl.map d).sum
structure WinI (n : Nat) (pl : List Int) (x : Win) : Prop where
  nn : x.n = n
  len : x.ws.length = n
  pos : ∀ v ∈ x.ws, 0 ≤ v
  la0 : 0 ≤ x.la
  pot : 2 * x.ws.sum + x.sp * n ≤ 2 * n + x.la * n
  ex : ∃ d : Int → Nat, (∀ p ∈ pl, ptAt x.ws p = 2 ^ d p ∧ d p ≤ clog n) ∧ x.la ≤ sumN pl d
theorem wsum_cons (a b : Int) (as bs : List Int) : wsum (a :: as) (b :: bs) = (if b = 1 then a else 0) + wsum as bs := by
  unfold wsum sumIf
  rw [List.zip_cons_cons, List.filter_cons]
  by_cases h : b = 1
  · rw [if_pos h, if_pos (decide_eq_true h), List.map_cons, List.sum_cons]
  · rw [if_neg h, if_neg (by rw [decide_eq_false h]; exact Bool.false_ne_true), Int.zero_add]
theorem wsum_nn : ∀ (ws pt : List Int), (∀ v ∈ ws, 0 ≤ v) → 0 ≤ wsum ws pt
  | [], _, _ => by simp [wsum, sumIf]
  | _ :: _, [], _ => by simp [wsum, sumIf]
  | a :: as, b :: bs, h => by
    rw [wsum_cons]
    have h1 := wsum_nn as bs fun v hv => h v (List.mem_cons_of_mem _ hv)
    have h2 := h a List.mem_cons_self
    split <;> omega
theorem wsum_ge : ∀ (ws pt : List Int) (i : Nat), (∀ v ∈ ws, 0 ≤ v) → i < ws.length → pt.getD i 0 = 1 → ws.getD i 0 ≤ wsum ws pt
  | [], _, _, _, hi, _ => absurd hi (Nat.not_lt_zero _)
  | a :: as, [], i, _, _, e => by simp at e
  | a :: as, b :: bs, 0, h, _, e => by
    rw [wsum_cons]
    have h1 := wsum_nn as bs fun v hv => h v (List.mem_cons_of_mem _ hv)
    have e : b = 1 := e
    rw [if_pos e]
    show a ≤ _
    omega
  | a :: as, b :: bs, i + 1, h, hi, e => by
    rw [wsum_cons]
    have h1 := wsum_ge as bs i (fun v hv => h v (List.mem_cons_of_mem _ hv)) (Nat.lt_of_succ_lt_succ hi) e
    have h2 := h a List.mem_cons_self
    show as.getD i 0 ≤ _
    split <;> omega
theorem sum_dbl : ∀ (ws pt : List Int), ws.length = pt.length → ((ws.zip pt).map fun p => if decide (p.2 = 1) = true then 2 * p.1 else p.1).sum = ws.sum + wsum ws pt
  | [], _, _ => by simp [wsum, sumIf]
  | a :: as, [], h => by cases h
  | a :: as, b :: bs, h => by
    have ih := sum_dbl as bs (Nat.succ.inj h)
    rw [wsum_cons, List.zip_cons_cons, List.map_cons, List.sum_cons, ih, List.sum_cons]
    by_cases e : b = 1
    · simp only [e, decide_true, if_true]; omega
    · simp only [e, decide_false, if_false, Bool.false_eq_true]; omega
theorem sum_zap : ∀ (ws pt : List Int), ws.length = pt.length → ((ws.zip pt).map fun p => if decide (p.2 = 1) = true then 0 else p.1).sum = ws.sum - wsum ws pt
  | [], _, _ => by simp [wsum, sumIf]
  | a :: as, [], h => by cases h
  | a :: as, b :: bs, h => by
    have ih := sum_zap as bs (Nat.succ.inj h)
    rw [wsum_cons, List.zip_cons_cons, List.map_cons, List.sum_cons, ih, List.sum_cons]
    by_cases e : b = 1
    · simp only [e, decide_true, if_true]; omega
    · simp only [e, decide_false, if_false, Bool.false_eq_true]; omega
theorem zip_get (ws pt : List Int) (f : Int × Int → Int) (i : Nat) (h1 : i < ws.length) (h2 : i < pt.length) : ((ws.zip pt).map f).getD i 0 = f (ws.getD i 0, pt.getD i 0) := by
  have e : (ws.zip pt)[i]? = some (ws[i], pt[i]) := List.getElem?_zip_eq_some.mpr ⟨List.getElem?_eq_getElem h1, List.getElem?_eq_getElem h2⟩
  rw [List.getD_eq_getElem?_getD, List.getElem?_map, e, List.getD_eq_getElem?_getD, List.getElem?_eq_getElem h1, List.getD_eq_getElem?_getD, List.getElem?_eq_getElem h2]
  rfl
theorem sumN_le {pl : List Int} {d e : Int → Nat} (h : ∀ p ∈ pl, d p ≤ e p) : sumN pl d ≤ sumN pl e := by
  induction pl with
  | nil => exact Nat.le_refl _
  | cons a r ih =>
    unfold sumN at ih ⊢
    rw [List.map_cons, List.map_cons, List.sum_cons, List.sum_cons]
    have := h a List.mem_cons_self
    have := ih fun p hp => h p (List.mem_cons_of_mem _ hp)
    omega
theorem sumN_lt {pl : List Int} {d e : Int → Nat} (h : ∀ p ∈ pl, d p ≤ e p) {q : Int} (hq : q ∈ pl) (hl : d q < e q) : sumN pl d < sumN pl e := by
  induction pl with
  | nil => cases hq
  | cons a r ih =>
    have hr : ∀ p ∈ r, d p ≤ e p := fun p hp => h p (List.mem_cons_of_mem _ hp)
    have h1 := sumN_le hr
    have h2 := h a List.mem_cons_self
    unfold sumN at ih h1 ⊢
    rw [List.map_cons, List.map_cons, List.sum_cons, List.sum_cons]
    rcases List.mem_cons.mp hq with e' | e'
    · subst e'; omega
    · have := ih hr e'
      omega
theorem sumN_max {pl : List Int} {d : Int → Nat} {c : Nat} (h : ∀ p ∈ pl, d p ≤ c) : sumN pl d ≤ pl.length * c := by
  induction pl with
  | nil => simp [sumN]
  | cons a r ih =>
    unfold sumN at ih ⊢
    rw [List.map_cons, List.sum_cons, List.length_cons, Nat.succ_mul]
    have := h a List.mem_cons_self
    have := ih fun p hp => h p (List.mem_cons_of_mem _ hp)
    omega
theorem WinI.zero {n : Nat} {pl : List Int} (hp : ∀ p ∈ pl, 0 ≤ p ∧ p < n) : WinI n pl ⟨n, List.replicate n 1, 0, 0⟩ := by
  refine ⟨rfl, List.length_replicate, fun v hv => by rw [(List.mem_replicate.mp hv).2]; decide, Int.le_refl _, ?_, fun _ => 0, fun p hpp => ⟨?_, Nat.zero_le _⟩, ?_⟩
  · show 2 * (List.replicate n (1 : Int)).sum + 0 * (n : Int) ≤ 2 * n + 0 * n
    have e : ∀ k : Nat, (List.replicate k (1 : Int)).sum = k := fun k => by
      induction k with
      | zero => rfl
      | succ k ih => rw [List.replicate_succ, List.sum_cons, ih]; omega
    rw [e]
    omega
  · obtain ⟨h0, h1⟩ := hp p hpp
    unfold ptAt
    rw [List.getD_eq_getElem?_getD, List.getElem?_replicate, if_pos (by omega)]
    rfl
  · exact Int.natCast_nonneg _
theorem WinI.alive {n : Nat} {pl : List Int} {x : Win} (h : WinI n pl x) (hp : ∀ p ∈ pl, 0 ≤ p ∧ p < n) {pt : List Int} (hl : pt.length = n) (ht : onF pl pt = true) : 0 < wsum x.ws pt ∧ ∃ p ∈ pl, ptAt pt p = 1 := by
  obtain ⟨p, hpp, e⟩ := List.any_eq_true.mp ht
  have e := of_decide_eq_true e
  obtain ⟨h0, h1⟩ := hp p hpp
  obtain ⟨d, hd, _⟩ := h.ex
  have g := wsum_ge x.ws pt p.toNat h.pos (by rw [h.len]; omega) e
  have : ptAt x.ws p = 2 ^ d p := (hd p hpp).1
  unfold ptAt at this
  rw [this] at g
  have pw : (0 : Int) < 2 ^ d p := Int.pow_pos (by decide)
  exact ⟨by omega, p, hpp, e⟩
theorem wdead_sum : ∀ (ws pt : List Int), wdead ws pt = true → wsum ws pt = 0
  | [], _, _ => by simp [wsum, sumIf]
  | _ :: _, [], _ => by simp [wsum, sumIf]
  | a :: as, b :: bs, h => by
    unfold wdead at h
    rw [List.zip_cons_cons, List.all_cons, Bool.and_eq_true] at h
    rw [wsum_cons, wdead_sum as bs h.2]
    by_cases e : b = 1
    · rw [if_pos e]
      have := h.1
      rw [decide_eq_true e] at this
      simp at this
      omega
    · rw [if_neg e]
      rfl
theorem WinI.dead {n : Nat} {pl : List Int} {x : Win} (h : WinI n pl x) (hp : ∀ p ∈ pl, 0 ≤ p ∧ p < n) {pt : List Int} (hl : pt.length = n) (ht : onF pl pt = true) : wdead x.ws pt = false := by
  cases hq : wdead x.ws pt with
  | false => rfl
  | true =>
    have := wdead_sum _ _ hq
    have := (h.alive hp hl ht).1
    omega
theorem WinI.step {n : Nat} {pl : List Int} {x : Win} (h : WinI n pl x) (hp : ∀ p ∈ pl, 0 ≤ p ∧ p < n) {pt : List Int} (hl : pt.length = n) : WinI n pl (wseen x pt (onF pl pt)) := by
  have hll : x.ws.length = pt.length := by rw [h.len, hl]
  obtain ⟨d, hd, hs⟩ := h.ex
  have pot := h.pot
  have la0 := h.la0
  unfold wseen
  by_cases c1 : (onF pl pt && !wguess x pt) = true
  · rw [if_pos c1]
    rw [Bool.and_eq_true] at c1
    obtain ⟨ht, hg⟩ := c1
    obtain ⟨w0, q, hq, eq⟩ := h.alive hp hl ht
    have hg : wguess x pt = false := by cases hz : wguess x pt with | false => rfl | true => rw [hz] at hg; cases hg
    have w1 : 2 * wsum x.ws pt < n := by
      unfold wguess at hg
      rw [decide_eq_true w0, Bool.and_true] at hg
      have := of_decide_eq_false hg
      rw [h.nn] at this
      omega
    have up : ∀ p ∈ pl, ptAt pt p = 1 → d p < clog n := fun p hpp e => by
      obtain ⟨h0, h1⟩ := hp p hpp
      have g := wsum_ge x.ws pt p.toNat h.pos (by rw [h.len]; omega) e
      have e2 : x.ws.getD p.toNat 0 = 2 ^ d p := (hd p hpp).1
      rw [e2] at g
      refine lt_clog.mp ?_
      have : ((2 ^ d p : Nat) : Int) = 2 ^ d p := by rw [Int.natCast_pow]; rfl
      have : (0 : Int) < 2 ^ d p := Int.pow_pos (by decide)
      omega
    refine ⟨h.nn, by rw [List.length_map, List.length_zip, hll, Nat.min_self, hl], fun v hv => ?_, by show 0 ≤ x.la + 1; omega, ?_, fun p => if ptAt pt p = 1 then d p + 1 else d p, fun p hpp => ?_, ?_⟩
    · obtain ⟨z, hz, rfl⟩ := List.mem_map.mp hv
      have := h.pos z.1 (List.of_mem_zip (a := z.1) (b := z.2) hz).1
      show (0 : Int) ≤ (if decide (z.2 = 1) = true then 2 * z.1 else z.1)
      split <;> omega
    · show 2 * ((x.ws.zip pt).map fun p => if decide (p.2 = 1) = true then 2 * p.1 else p.1).sum + x.sp * n ≤ 2 * n + (x.la + 1) * n
      rw [sum_dbl _ _ hll, Int.add_mul]
      omega
    · obtain ⟨h0, h1⟩ := hp p hpp
      show ptAt ((x.ws.zip pt).map fun p => if decide (p.2 = 1) = true then 2 * p.1 else p.1) p = _ ∧ _
      have e2 : x.ws.getD p.toNat 0 = 2 ^ d p := (hd p hpp).1
      have e3 : ptAt ((x.ws.zip pt).map fun p => if decide (p.2 = 1) = true then 2 * p.1 else p.1) p = if decide (ptAt pt p = 1) = true then 2 * (2 ^ d p) else 2 ^ d p := by
        unfold ptAt
        rw [zip_get _ _ _ _ (by rw [h.len]; omega) (by rw [hl]; omega), e2]
      rw [e3]
      show _ = (2 : Int) ^ (if ptAt pt p = 1 then d p + 1 else d p) ∧ (if ptAt pt p = 1 then d p + 1 else d p) ≤ clog n
      by_cases e : ptAt pt p = 1
      · rw [decide_eq_true e, if_pos rfl, if_pos e]
        refine ⟨by rw [Int.pow_succ, Int.mul_comm], up p hpp e⟩
      · rw [decide_eq_false e, if_neg Bool.false_ne_true, if_neg e]
        exact ⟨rfl, (hd p hpp).2⟩
    · show x.la + 1 ≤ ((sumN pl _ : Nat) : Int)
      have := sumN_lt (pl := pl) (d := d) (e := fun p => if ptAt pt p = 1 then d p + 1 else d p) (fun p _ => by split <;> omega) hq (by rw [if_pos eq]; omega)
      omega
  · rw [if_neg c1]
    by_cases c2 : (wguess x pt && !onF pl pt) = true
    · rw [if_pos c2]
      rw [Bool.and_eq_true] at c2
      obtain ⟨hg, ht⟩ := c2
      have ht : onF pl pt = false := by cases hz : onF pl pt with | false => rfl | true => rw [hz] at ht; cases ht
      have off : ∀ p ∈ pl, ptAt pt p ≠ 1 := fun p hpp e => by
        have := List.any_eq_false.mp ht p hpp
        exact this (decide_eq_true e)
      have w1 : (n : Int) ≤ 2 * wsum x.ws pt := by
        unfold wguess at hg
        rw [Bool.and_eq_true] at hg
        have := of_decide_eq_true hg.1
        rw [h.nn] at this
        exact this
      refine ⟨h.nn, by rw [List.length_map, List.length_zip, hll, Nat.min_self, hl], fun v hv => ?_, la0, ?_, d, fun p hpp => ?_, hs⟩
      · obtain ⟨z, hz, rfl⟩ := List.mem_map.mp hv
        have := h.pos z.1 (List.of_mem_zip (a := z.1) (b := z.2) hz).1
        show (0 : Int) ≤ (if decide (z.2 = 1) = true then 0 else z.1)
        split <;> omega
      · show 2 * ((x.ws.zip pt).map fun p => if decide (p.2 = 1) = true then 0 else p.1).sum + (x.sp + 1) * n ≤ 2 * n + x.la * n
        rw [sum_zap _ _ hll, Int.add_mul]
        omega
      · obtain ⟨h0, h1⟩ := hp p hpp
        refine ⟨?_, (hd p hpp).2⟩
        show ptAt ((x.ws.zip pt).map fun p => if decide (p.2 = 1) = true then 0 else p.1) p = _
        have e2 : x.ws.getD p.toNat 0 = 2 ^ d p := (hd p hpp).1
        have hoff := off p hpp
        unfold ptAt at hoff ⊢
        rw [zip_get _ _ _ _ (by rw [h.len]; omega) (by rw [hl]; omega), e2]
        show (if decide (pt.getD p.toNat 0 = 1) = true then 0 else _) = _
        rw [decide_eq_false hoff, if_neg Bool.false_ne_true]
    · rw [if_neg c2]
      exact h
theorem sum_nn : ∀ {ws : List Int}, (∀ v ∈ ws, 0 ≤ v) → 0 ≤ ws.sum
  | [], _ => Int.le_refl _
  | a :: r, h => by
    rw [List.sum_cons]
    have := sum_nn fun v hv => h v (List.mem_cons_of_mem _ hv)
    have := h a List.mem_cons_self
    omega
theorem WinI.bound {n : Nat} {pl : List Int} {x : Win} (h : WinI n pl x) (hn : 0 < n) : x.la + x.sp ≤ ((2 * (pl.length * (clog n + 1)) + 2 : Nat) : Int) := by
  obtain ⟨d, hd, hs⟩ := h.ex
  have s0 := sum_nn h.pos
  have pot := h.pot
  have h1 : x.sp ≤ x.la + 2 := by
    refine Int.le_of_mul_le_mul_right (a := (n : Int)) ?_ (by omega)
    rw [Int.add_mul]
    omega
  have h2 := sumN_max (pl := pl) (d := d) (c := clog n) fun p hp => (hd p hp).2
  have h3 : pl.length * clog n ≤ pl.length * (clog n + 1) := Nat.mul_le_mul_left _ (by omega)
  omega
end H65

set_option Elab.async false
set_option linter.all false
set_option maxRecDepth 100000
set_option maxHeartbeats 1000000
set_option exponentiation.threshold 100000
/-! k65, plain laws: halving, vote, mix. -/
namespace H65
open PySem PySem.Spec PyProof.Rows L2 LW
/-! ### halving -/
structure HaI (N : Nat) (hid : Rul) (rs : List Rul) (m : Int) : Prop where
  mem : hid ∈ rs
  ex : ∃ k : Nat, m = k ∧ 2 ^ k * rs.length ≤ N
theorem kept_split (rs : List Rul) (k : Int) : (keptF rs k true).length + (keptF rs k false).length = rs.length := by
  unfold keptF
  induction rs with
  | nil => rfl
  | cons r t ih =>
    rw [List.filter_cons, List.filter_cons, List.length_cons]
    cases atR r k with
    | true => rw [if_pos (by decide), if_neg (by decide), List.length_cons]; omega
    | false => rw [if_neg (by decide), if_pos (by decide), List.length_cons]; omega
theorem HaI.step {N : Nat} {hid : Rul} {rs : List Rul} {m : Int} (h : HaI N hid rs m) (k : Int) : HaI N hid (keptF rs k (atR hid k)) (m + (if !decide (hguess rs k = atR hid k) then 1 else 0)) := by
  obtain ⟨j, rfl, hj⟩ := h.ex
  refine ⟨List.mem_filter.mpr ⟨h.mem, decide_eq_true rfl⟩, ?_⟩
  have sp := kept_split rs k
  cases hg : decide (hguess rs k = atR hid k) with
  | true =>
    refine ⟨j, by simp, Nat.le_trans (Nat.mul_le_mul_left _ ?_) hj⟩
    exact List.length_filter_le _ _
  | false =>
    refine ⟨j + 1, by simp, Nat.le_trans ?_ hj⟩
    have hne := of_decide_eq_false hg
    have h2 : 2 * (keptF rs k (atR hid k)).length ≤ rs.length := by
      cases ha : atR hid k with
      | true =>
        rw [ha] at hne
        have hg : hguess rs k = false := by cases hz : hguess rs k with | false => rfl | true => exact absurd hz hne
        have := of_decide_eq_false hg
        omega
      | false =>
        rw [ha] at hne
        have hg : hguess rs k = true := by cases hz : hguess rs k with | true => rfl | false => exact absurd hz hne
        have := of_decide_eq_true hg
        omega
    rw [Nat.pow_succ, Nat.mul_assoc]
    exact Nat.mul_le_mul_left _ h2
theorem HaI.bound {N : Nat} {hid : Rul} {rs : List Rul} {m : Int} (h : HaI N hid rs m) : m ≤ ((N.log2 : Nat) : Int) := by
  obtain ⟨j, rfl, hj⟩ := h.ex
  have h1 : 0 < rs.length := List.length_pos_of_mem h.mem
  have h2 : 2 ^ j ≤ N := Nat.le_trans (Nat.le_mul_of_pos_right _ h1) hj
  have h3 : N ≠ 0 := fun e => by
    have := Nat.one_le_two_pow (n := j)
    omega
  have := (Nat.le_log2 h3).mpr h2
  omega
theorem HaI.ne {N : Nat} {hid : Rul} {rs : List Rul} {m : Int} (h : HaI N hid rs m) (k : Int) : keptF rs k (atR hid k) ≠ [] :=
  List.ne_nil_of_mem (List.mem_filter.mpr ⟨h.mem, decide_eq_true rfl⟩)
/-! ### vote; the weights are taken as powers of two below a height t -/
def phi (t : Nat) (ws : List Nat) : Nat := (ws.map fun c => 2 ^ (t - c)).sum
structure VoI (N t : Nat) (ws : List Nat) (m : Nat) : Prop where
  len : ws.length = N
  le : ∀ c ∈ ws, c ≤ m ∨ c ≤ t
  pot : phi t ws * 4 ^ m ≤ N * 2 ^ t * 3 ^ m
/-- of those that p holds of -/
def phiP (t : Nat) (xs : List (Nat × Bool)) (p : Bool → Bool) : Nat := ((xs.filter fun x => p x.2).map fun x => 2 ^ (t - x.1)).sum
def nextW (ws : List Nat) (as : List Bool) (r : Bool) : List Nat := (ws.zip as).map fun p => p.1 + (if !decide (p.2 = r) then 1 else 0)
theorem phi_split (t : Nat) : ∀ (ws : List Nat) (as : List Bool), ws.length = as.length → phiP t (ws.zip as) (fun a => a) + phiP t (ws.zip as) (fun a => !a) = phi t ws
  | [], _, _ => rfl
  | _ :: _, [], h => by cases h
  | c :: ws, a :: as, h => by
    have ih := phi_split t ws as (Nat.succ.inj h)
    unfold phiP phi at ih ⊢
    rw [List.zip_cons_cons, List.filter_cons, List.filter_cons, List.map_cons, List.sum_cons]
    cases a with
    | true =>
      rw [if_pos (show ((fun a : Bool => a) (c, true).2) = true from rfl), if_neg (show ¬ ((fun a : Bool => !a) (c, true).2) = true from Bool.false_ne_true), List.map_cons, List.sum_cons]
      show 2 ^ (t - c) + _ + _ = _
      omega
    | false =>
      rw [if_neg (show ¬ ((fun a : Bool => a) (c, false).2) = true from Bool.false_ne_true), if_pos (show ((fun a : Bool => !a) (c, false).2) = true from rfl), List.map_cons, List.sum_cons]
      show _ + (2 ^ (t - c) + _) = _
      omega
/-- after a round: 2 new + (those that were wrong) = 2 old -/
theorem phi_next (t : Nat) (r : Bool) : ∀ (ws : List Nat) (as : List Bool), ws.length = as.length → (∀ c ∈ ws, c < t) → 2 * phi t (nextW ws as r) + phiP t (ws.zip as) (fun a => !decide (a = r)) = 2 * phi t ws
  | [], _, _, _ => rfl
  | _ :: _, [], h, _ => by cases h
  | c :: ws, a :: as, h, hc => by
    have ih := phi_next t r ws as (Nat.succ.inj h) fun c hc' => hc c (List.mem_cons_of_mem _ hc')
    have h1 := hc c List.mem_cons_self
    unfold phiP phi nextW at ih ⊢
    have hf : ∀ l : List (Nat × Bool), List.filter (fun x => (fun a => !decide (a = r)) x.2) ((c, a) :: l) = if (!decide (a = r)) = true then (c, a) :: List.filter (fun x => (fun a => !decide (a = r)) x.2) l else List.filter (fun x => (fun a => !decide (a = r)) x.2) l := fun l => List.filter_cons
    rw [List.zip_cons_cons, hf, List.map_cons, List.map_cons, List.sum_cons, List.map_cons, List.sum_cons]
    show 2 * (2 ^ (t - (c + if (!decide (a = r)) = true then 1 else 0)) + _) + _ = _
    have e : 2 ^ (t - c) = 2 * 2 ^ (t - (c + 1)) := by
      rw [show t - c = (t - (c + 1)) + 1 from by omega, Nat.pow_succ]
      exact Nat.mul_comm _ _
    cases hd : decide (a = r) with
    | true =>
      rw [if_neg (by simp), if_neg (by simp), Nat.add_zero]
      omega
    | false =>
      rw [if_pos (by simp), if_pos (by simp), List.map_cons, List.sum_cons]
      show _ + (2 ^ (t - c) + _) = _
      omega
theorem VoI.step {N t : Nat} {ws : List Nat} {m : Nat} (h : VoI N t ws m) {as : List Bool} (hl : ws.length = as.length) (hc : ∀ c ∈ ws, c < t) (r g : Bool) (hg : g = decide (phi t ws ≤ 2 * phiP t (ws.zip as) fun a => a)) :
    VoI N t (nextW ws as r) (m + (if !decide (g = r) then 1 else 0)) := by
  have nx := phi_next t r ws as hl hc
  have sp := phi_split t ws as hl
  refine ⟨by unfold nextW; rw [List.length_map, List.length_zip, ← hl, Nat.min_self]; exact h.len, fun c hcc => ?_, ?_⟩
  · obtain ⟨z, hz, rfl⟩ := List.mem_map.mp hcc
    have := hc z.1 (List.of_mem_zip (a := z.1) (b := z.2) hz).1
    right
    show z.1 + (if _ then _ else _) ≤ t
    split <;> omega
  · cases hd : decide (g = r) with
    | true =>
      simp only [Bool.not_true, Bool.false_eq_true, if_false, Nat.add_zero]
      exact Nat.le_trans (Nat.mul_le_mul_right _ (by omega)) h.pot
    | false =>
      simp only [Bool.not_false, if_true]
      have hne := of_decide_eq_false hd
      have key : 4 * phi t (nextW ws as r) ≤ 3 * phi t ws := by
        cases hr : r with
        | true =>
          have hgf : g = false := by cases hz : g with | false => rfl | true => exact absurd (hz.trans hr.symm) hne
          have := of_decide_eq_false (hg.symm.trans hgf)
          rw [hr] at nx
          have e : phiP t (ws.zip as) (fun a => !decide (a = true)) = phiP t (ws.zip as) (fun a => !a) := by
            have : (fun a : Bool => !decide (a = true)) = fun a => !a := by funext a; cases a <;> rfl
            rw [this]
          omega
        | false =>
          have hgt : g = true := by cases hz : g with | true => rfl | false => exact absurd (hz.trans hr.symm) hne
          have := of_decide_eq_true (hg.symm.trans hgt)
          rw [hr] at nx
          have e : phiP t (ws.zip as) (fun a => !decide (a = false)) = phiP t (ws.zip as) (fun a => a) := by
            have : (fun a : Bool => !decide (a = false)) = fun a => a := by funext a; cases a <;> rfl
            rw [this]
          omega
      rw [Nat.pow_succ, Nat.pow_succ]
      calc phi t (nextW ws as r) * (4 ^ m * 4) = 4 * phi t (nextW ws as r) * 4 ^ m := by simp only [Nat.mul_assoc, Nat.mul_comm, Nat.mul_left_comm]
        _ ≤ 3 * phi t ws * 4 ^ m := Nat.mul_le_mul_right _ key
        _ = 3 * (phi t ws * 4 ^ m) := Nat.mul_assoc _ _ _
        _ ≤ 3 * (N * 2 ^ t * 3 ^ m) := Nat.mul_le_mul_left _ h.pot
        _ = N * 2 ^ t * (3 ^ m * 3) := by simp only [Nat.mul_assoc, Nat.mul_comm, Nat.mul_left_comm]
theorem phi_ge (t : Nat) : ∀ {ws : List Nat} {c : Nat}, c ∈ ws → 2 ^ (t - c) ≤ phi t ws
  | a :: r, c, h => by
    unfold phi
    rw [List.map_cons, List.sum_cons]
    rcases List.mem_cons.mp h with e | e
    · subst e; omega
    · have := phi_ge t e
      unfold phi at this
      exact Nat.le_trans this (Nat.le_add_left _ _)
theorem VoI.zero (N t : Nat) : VoI N t (List.replicate N 0) 0 := by
  refine ⟨List.length_replicate, fun c hc => .inl (by rw [(List.mem_replicate.mp hc).2]; exact Nat.le_refl _), ?_⟩
  unfold phi
  rw [List.map_replicate]
  show _ * 1 ≤ _ * 1
  rw [Nat.mul_one, Nat.mul_one]
  have e : ∀ k v : Nat, (List.replicate k v).sum = k * v := fun k v => by
    induction k with
    | zero => simp
    | succ k ih => rw [List.replicate_succ, List.sum_cons, ih, Nat.succ_mul]; omega
  rw [e]
  exact Nat.le_refl _
theorem VoI.bound {N t : Nat} {ws : List Nat} {m : Nat} (h : VoI N t ws m) {b : Nat} (hb : b ∈ ws) (hc : b ≤ t) : 4 ^ m ≤ N * 2 ^ b * 3 ^ m := by
  have h1 := phi_ge t hb
  have h2 : 2 ^ (t - b) * 4 ^ m ≤ 2 ^ (t - b) * (N * 2 ^ b * 3 ^ m) := by
    refine Nat.le_trans (Nat.mul_le_mul_right _ h1) (Nat.le_trans h.pot (Nat.le_of_eq ?_))
    have e : 2 ^ t = 2 ^ (t - b) * 2 ^ b := by rw [← Nat.pow_add]; congr 1; omega
    rw [e]
    simp only [Nat.mul_assoc, Nat.mul_comm, Nat.mul_left_comm]
  exact Nat.le_of_mul_le_mul_left h2 (Nat.pow_pos (by decide))
/-! ### mix -/
structure MiI (N t : Nat) (ws ls : List Nat) (lo re : Nat × Nat) : Prop where
  lw : ws.length = N
  ll : ls.length = N
  rel : ∀ i, i < N → ws.getD i 0 * 2 ^ ls.getD i 0 = 2 ^ t
  low : 0 < lo.2 ∧ 0 < re.2
  big : lo.1 < 2 ^ (68 * t + 1) ∧ lo.2 < 2 ^ (68 * t + 1) ∧ re.1 < 2 ^ (68 * t + 1) ∧ re.2 < 2 ^ (68 * t + 1)
  pot : re.1 * (2 ^ t * N) = ws.sum * re.2
theorem MiI.zero (N : Nat) : MiI N 0 (List.replicate N 1) (List.replicate N 0) (0, 1) (1, 1) := by
  have e : ∀ k v : Nat, (List.replicate k v).sum = k * v := fun k v => by
    induction k with
    | zero => simp
    | succ k ih => rw [List.replicate_succ, List.sum_cons, ih, Nat.succ_mul]; omega
  refine ⟨List.length_replicate, List.length_replicate, fun i hi => ?_, ⟨Nat.one_pos, Nat.one_pos⟩, ⟨by decide, by decide, by decide, by decide⟩, ?_⟩
  · rw [List.getD_eq_getElem?_getD, List.getElem?_replicate, if_pos hi, List.getD_eq_getElem?_getD, List.getElem?_replicate, if_pos hi]
    rfl
  · rw [e]
    show 1 * (1 * N) = N * 1 * 1
    omega
theorem sum_mixW : ∀ (ws l : List Nat), ws.length = l.length → (mixW ws l).sum + lostN ws l = 2 * ws.sum
  | [], _, _ => rfl
  | _ :: _, [], h => by cases h
  | a :: ws, z :: l, h => by
    have ih := sum_mixW ws l (Nat.succ.inj h)
    unfold mixW lostN at ih ⊢
    rw [List.zip_cons_cons, List.map_cons, List.sum_cons, List.filter_cons, List.sum_cons]
    cases hd : decide (z = 1) with
    | true => rw [if_pos rfl, if_pos rfl, List.map_cons, List.sum_cons]; omega
    | false => rw [if_neg Bool.false_ne_true, if_neg Bool.false_ne_true]; omega
theorem sml_cross (a b : Nat) : (sml a b).1 * b = a * (sml a b).2 := by
  unfold sml
  have h1 := Nat.gcd_dvd_left a b
  have h2 := Nat.gcd_dvd_right a b
  obtain ⟨x, hx⟩ := h1
  obtain ⟨y, hy⟩ := h2
  by_cases h0 : Nat.gcd a b = 0
  · have hb : b = 0 := Nat.eq_zero_of_gcd_eq_zero_right h0
    have ha : a = 0 := Nat.eq_zero_of_gcd_eq_zero_left h0
    rw [ha, hb]
    simp
  · have hp : 0 < Nat.gcd a b := Nat.pos_of_ne_zero h0
    show a / Nat.gcd a b * b = a * (b / Nat.gcd a b)
    rw [Nat.div_mul_right_comm (Nat.gcd_dvd_left a b), Nat.mul_div_assoc _ (Nat.gcd_dvd_right a b)]
theorem zipN_get (ws pt : List Nat) (f : Nat × Nat → Nat) (i : Nat) (h1 : i < ws.length) (h2 : i < pt.length) : ((ws.zip pt).map f).getD i 0 = f (ws.getD i 0, pt.getD i 0) := by
  have e : (ws.zip pt)[i]? = some (ws[i], pt[i]) := List.getElem?_zip_eq_some.mpr ⟨List.getElem?_eq_getElem h1, List.getElem?_eq_getElem h2⟩
  rw [List.getD_eq_getElem?_getD, List.getElem?_map, e, List.getD_eq_getElem?_getD, List.getElem?_eq_getElem h1, List.getD_eq_getElem?_getD, List.getElem?_eq_getElem h2]
  rfl
theorem MiI.wpos {N t : Nat} {ws ls : List Nat} {lo re : Nat × Nat} (h : MiI N t ws ls lo re) : ∀ z ∈ ws, 0 < z ∧ z ≤ 2 ^ t := fun z hz => by
  obtain ⟨i, hi, e⟩ := List.getElem_of_mem hz
  have q := h.rel i (by rw [← h.lw]; exact hi)
  rw [List.getD_eq_getElem?_getD, List.getElem?_eq_getElem hi, e] at q
  have q : z * 2 ^ ls.getD i 0 = 2 ^ t := q
  have p1 : 0 < 2 ^ t := Nat.pow_pos (by decide)
  have p2 : 0 < 2 ^ ls.getD i 0 := Nat.pow_pos (by decide)
  refine ⟨Nat.pos_of_ne_zero fun e0 => by rw [e0] at q; omega, ?_⟩
  rw [← q]
  exact Nat.le_mul_of_pos_right _ p2
theorem MiI.lle {N t : Nat} {ws ls : List Nat} {lo re : Nat × Nat} (h : MiI N t ws ls lo re) : ∀ z ∈ ls, z ≤ t := fun z hz => by
  obtain ⟨i, hi, e⟩ := List.getElem_of_mem hz
  have hi' : i < ws.length := by rw [h.lw, ← h.ll]; exact hi
  have q := h.rel i (by rw [← h.ll]; exact hi)
  rw [List.getD_eq_getElem?_getD (l := ls), List.getElem?_eq_getElem hi, e] at q
  have q : ws.getD i 0 * 2 ^ z = 2 ^ t := q
  have w0 : 0 < ws.getD i 0 := by
    rw [List.getD_eq_getElem?_getD, List.getElem?_eq_getElem hi']
    exact (h.wpos _ (List.getElem_mem hi')).1
  exact (Nat.pow_le_pow_iff_right (a := 2) (by decide)).mp (by rw [← q]; exact Nat.le_mul_of_pos_left _ w0)
theorem MiI.sum_lt {N t : Nat} {ws ls : List Nat} {lo re : Nat × Nat} (h : MiI N t ws ls lo re) (hN : N ≤ 60) (ht : t ≤ 60) : ws.sum < 2 ^ 67 := by
  have q := H65.sum_lt (B := 2 ^ 60 + 1) (ws := ws) fun z hz => by
    have := (h.wpos z hz).2
    have : 2 ^ t ≤ 2 ^ 60 := Nat.pow_le_pow_right (by decide) ht
    omega
  have : ws.length * (2 ^ 60 + 1) ≤ 60 * (2 ^ 60 + 1) := Nat.mul_le_mul_right _ (by rw [h.lw]; exact hN)
  have : 60 * (2 ^ 60 + 1) < 2 ^ 67 := by decide
  omega
theorem MiI.step {N t : Nat} {ws ls : List Nat} {lo re : Nat × Nat} (h : MiI N t ws ls lo re) {l : List Nat} (hl : l.length = N) (h01 : ∀ z ∈ l, z = 0 ∨ z = 1) (hN0 : 0 < N) (hN : N ≤ 60) (ht : t ≤ 60) :
    MiI N (t + 1) (mixW ws l) (mixL ls l) (addF lo (partN ws l)) (restN re (partN ws l)) := by
  have hll : ws.length = l.length := by rw [h.lw, hl]
  have wp := sum_pos (ws := ws) (by rw [h.lw]; exact hN0) fun z hz => (h.wpos z hz).1
  have wl := h.sum_lt hN ht
  have sm := sum_mixW ws l hll
  have lle := lostN_le ws l
  obtain ⟨b1, b2, b3, b4⟩ := h.big
  have p1 : (partN ws l).1 < 2 ^ 67 := Nat.lt_of_le_of_lt (Nat.le_trans (sml_le _ _).1 lle) wl
  have p2 : (partN ws l).2 < 2 ^ 67 := Nat.lt_of_le_of_lt (sml_le _ _).2 wl
  have p3 : (partN ws l).1 ≤ (partN ws l).2 := sml_mono lle
  have p4 : 0 < (partN ws l).2 := sml_pos wp
  have cr : (partN ws l).1 * ws.sum = lostN ws l * (partN ws l).2 := sml_cross _ _
  have hk : 68 * (t + 1) + 1 = (68 * t + 1) + 67 + 1 := by omega
  have dbl : ∀ {a : Nat}, a < 2 ^ (68 * t + 1 + 67) → a < 2 ^ (68 * (t + 1) + 1) := fun q => Nat.lt_of_lt_of_le q (Nat.pow_le_pow_right (by decide) (by omega))
  have dbl2 : ∀ {a b : Nat}, a < 2 ^ (68 * t + 1 + 67) → b < 2 ^ (68 * t + 1 + 67) → a + b < 2 ^ (68 * (t + 1) + 1) := fun {a b} q q2 => by
    rw [hk, Nat.pow_succ]
    generalize 2 ^ (68 * t + 1 + 67) = z at q q2 ⊢
    omega
  refine ⟨by unfold mixW; rw [List.length_map, List.length_zip, ← hll, Nat.min_self]; exact h.lw, by unfold mixL; rw [List.length_map, List.length_zip, h.ll, hl, Nat.min_self], fun i hi => ?_, ⟨sml_pos (Nat.mul_pos h.low.1 p4), sml_pos (Nat.mul_pos (Nat.mul_pos h.low.2 (by decide)) p4)⟩, ⟨?_, ?_, ?_, ?_⟩, ?_⟩
  · have r := h.rel i hi
    unfold mixW mixL
    rw [zipN_get _ _ _ _ (by rw [h.lw]; exact hi) (by rw [hl]; exact hi), zipN_get _ _ _ _ (by rw [h.ll]; exact hi) (by rw [hl]; exact hi)]
    show (if decide (l.getD i 0 = 1) = true then ws.getD i 0 else 2 * ws.getD i 0) * 2 ^ (ls.getD i 0 + l.getD i 0) = 2 ^ (t + 1)
    have hz : l.getD i 0 = 0 ∨ l.getD i 0 = 1 := by
      rw [List.getD_eq_getElem?_getD, List.getElem?_eq_getElem (by rw [hl]; exact hi)]
      exact h01 _ (List.getElem_mem _)
    rcases hz with e | e
    · rw [e, decide_eq_false (by decide), if_neg Bool.false_ne_true, Nat.add_zero, Nat.mul_assoc, r, Nat.pow_succ, Nat.mul_comm]
    · rw [e, decide_eq_true rfl, if_pos rfl, Nat.pow_succ, ← Nat.mul_assoc, r, Nat.pow_succ]
  · refine Nat.lt_of_le_of_lt (sml_le _ _).1 (dbl2 (mul_lt_pow b1 p2) ?_)
    rw [Nat.mul_comm]
    exact mul_lt_pow b2 p1
  · exact Nat.lt_of_le_of_lt (sml_le _ _).2 (dbl (mul_lt_pow b2 p2))
  · refine Nat.lt_of_le_of_lt (sml_le _ _).1 ?_
    have q : 2 * (partN ws l).2 - (partN ws l).1 < 2 ^ 68 := by
      have : (2 : Nat) ^ 68 = 2 * 2 ^ 67 := by decide
      omega
    have := mul_lt_pow b3 q
    rw [show 68 * (t + 1) + 1 = 68 * t + 1 + 68 from by omega]
    exact this
  · refine Nat.lt_of_le_of_lt (sml_le _ _).2 ?_
    have q : 2 * (partN ws l).2 < 2 ^ 68 := by
      have : (2 : Nat) ^ 68 = 2 * 2 ^ 67 := by decide
      omega
    have := mul_lt_pow b4 q
    rw [show 68 * (t + 1) + 1 = 68 * t + 1 + 68 from by omega, Nat.mul_assoc]
    exact this
  · -- rest = W / (2^t N)
    have c2 := sml_cross (re.1 * (2 * (partN ws l).2 - (partN ws l).1)) (re.2 * 2 * (partN ws l).2)
    show (restN re (partN ws l)).1 * (2 ^ (t + 1) * N) = (mixW ws l).sum * (restN re (partN ws l)).2
    have c2 : (restN re (partN ws l)).1 * (re.2 * 2 * (partN ws l).2) = re.1 * (2 * (partN ws l).2 - (partN ws l).1) * (restN re (partN ws l)).2 := c2
    generalize (restN re (partN ws l)) = z at c2 ⊢
    generalize (partN ws l) = p at *
    have pot := h.pot
    have hW : (2 * p.2 - p.1) * ws.sum = (mixW ws l).sum * p.2 := by
      rw [Nat.sub_mul, cr]
      have : (mixW ws l).sum = 2 * ws.sum - lostN ws l := by omega
      rw [this, Nat.sub_mul, Nat.mul_right_comm]
    have pp : 0 < re.2 * p.2 * ws.sum := Nat.mul_pos (Nat.mul_pos h.low.2 p4) wp
    refine Nat.eq_of_mul_eq_mul_right pp ?_
    calc z.1 * (2 ^ (t + 1) * N) * (re.2 * p.2 * ws.sum) = (z.1 * (re.2 * 2 * p.2)) * (2 ^ t * N * ws.sum) := by
          rw [Nat.pow_succ]; simp only [Nat.mul_assoc, Nat.mul_comm, Nat.mul_left_comm]
      _ = (re.1 * (2 * p.2 - p.1) * z.2) * (2 ^ t * N * ws.sum) := by rw [c2]
      _ = (re.1 * (2 ^ t * N)) * ((2 * p.2 - p.1) * ws.sum) * z.2 := by
          generalize 2 * p.2 - p.1 = d
          simp only [Nat.mul_assoc, Nat.mul_comm, Nat.mul_left_comm]
      _ = (ws.sum * re.2) * ((mixW ws l).sum * p.2) * z.2 := by rw [pot, hW]
      _ = (mixW ws l).sum * z.2 * (re.2 * p.2 * ws.sum) := by simp only [Nat.mul_assoc, Nat.mul_comm, Nat.mul_left_comm]
theorem sum_ge : ∀ {ws : List Nat} (i : Nat), i < ws.length → ws.getD i 0 ≤ ws.sum
  | a :: r, 0, _ => by rw [List.sum_cons]; show a ≤ _; omega
  | a :: r, i + 1, h => by
    rw [List.sum_cons]
    have := sum_ge (ws := r) i (Nat.lt_of_succ_lt_succ h)
    show r.getD i 0 ≤ _
    omega
theorem MiI.bound {N t : Nat} {ws ls : List Nat} {lo re : Nat × Nat} (h : MiI N t ws ls lo re) {b : Nat} (hb : b ∈ ls) : re.2 ≤ N * 2 ^ b * re.1 := by
  obtain ⟨i, hi, e⟩ := List.getElem_of_mem hb
  have r := h.rel i (by rw [← h.ll]; exact hi)
  rw [List.getD_eq_getElem?_getD (l := ls), List.getElem?_eq_getElem hi, e] at r
  have r : ws.getD i 0 * 2 ^ b = 2 ^ t := r
  have g := sum_ge (ws := ws) i (by rw [h.lw, ← h.ll]; exact hi)
  have h1 : 2 ^ t * re.2 ≤ 2 ^ t * (N * 2 ^ b * re.1) := by
    calc 2 ^ t * re.2 = ws.getD i 0 * 2 ^ b * re.2 := by rw [r]
      _ ≤ ws.sum * 2 ^ b * re.2 := Nat.mul_le_mul_right _ (Nat.mul_le_mul_right _ g)
      _ = (ws.sum * re.2) * 2 ^ b := Nat.mul_right_comm _ _ _
      _ = (re.1 * (2 ^ t * N)) * 2 ^ b := by rw [h.pot]
      _ = 2 ^ t * (N * 2 ^ b * re.1) := by simp only [Nat.mul_assoc, Nat.mul_comm, Nat.mul_left_comm]
  exact Nat.le_of_mul_le_mul_left h1 (Nat.pow_pos (by decide))
end H65

set_option Elab.async false
set_option linter.all false
set_option maxRecDepth 100000
set_option maxHeartbeats 1000000
/-! k65, plain laws: the parter (perceptron). -/
namespace H65
open PySem PySem.Spec PyProof.Rows L2 LW
theorem dot_cons (a b : Int) (as bs : List Int) : dot (a :: as) (b :: bs) = a * b + dot as bs := by
  unfold dot
  rw [List.zip_cons_cons, List.map_cons, List.sum_cons]
theorem dot_nil (bs : List Int) : dot [] bs = 0 := rfl
theorem dot_nil' (as : List Int) : dot as [] = 0 := by unfold dot; rw [List.zip_nil_right]; rfl
theorem sq_nn (a : Int) : 0 ≤ a * a := by
  rcases Int.le_total 0 a with h | h
  · exact Int.mul_nonneg h h
  · have := Int.mul_nonneg (a := -a) (b := -a) (by omega) (by omega)
    rw [Int.neg_mul_neg] at this
    exact this
theorem dot_nn : ∀ as : List Int, 0 ≤ dot as as
  | [] => Int.le_refl _
  | a :: as => by
    rw [dot_cons]
    have := dot_nn as
    have := sq_nn a
    omega
theorem dot_comm : ∀ as bs : List Int, dot as bs = dot bs as
  | [], bs => by rw [dot_nil, dot_nil']
  | _ :: _, [] => by rw [dot_nil, dot_nil']
  | a :: as, b :: bs => by rw [dot_cons, dot_cons, dot_comm as bs, Int.mul_comm]
theorem dot_quad (p q : Int) : ∀ as bs : List Int, as.length = bs.length → 0 ≤ p * p * dot as as - 2 * (p * q) * dot as bs + q * q * dot bs bs
  | [], [], _ => by simp [dot_nil]
  | [], _ :: _, h => by cases h
  | _ :: _, [], h => by cases h
  | a :: as, b :: bs, h => by
    have ih := dot_quad p q as bs (Nat.succ.inj h)
    have sq := sq_nn (p * a - q * b)
    rw [dot_cons, dot_cons, dot_cons]
    have e : p * p * (a * a + dot as as) - 2 * (p * q) * (a * b + dot as bs) + q * q * (b * b + dot bs bs) = (p * p * dot as as - 2 * (p * q) * dot as bs + q * q * dot bs bs) + (p * a - q * b) * (p * a - q * b) := by grind
    rw [e]
    omega
theorem dot_zero : ∀ as bs : List Int, as.length = bs.length → dot bs bs = 0 → dot as bs = 0
  | [], bs, _, _ => dot_nil bs
  | _ :: _, [], h, _ => by cases h
  | a :: as, b :: bs, h, h0 => by
    rw [dot_cons] at h0
    have h1 := sq_nn b
    have h2 := dot_nn bs
    have hb : b * b = 0 := by omega
    have hb : b = 0 := by
      rcases Int.mul_eq_zero.mp hb with e | e <;> exact e
    rw [dot_cons, hb, Int.mul_zero, Int.zero_add]
    exact dot_zero as bs (Nat.succ.inj h) (by omega)
theorem cauchy (as bs : List Int) (h : as.length = bs.length) : dot as bs * dot as bs ≤ dot as as * dot bs bs := by
  rcases Int.lt_or_eq_of_le (dot_nn bs) with hp | h0
  · have q := dot_quad (dot bs bs) (dot as bs) as bs h
    have e : dot bs bs * dot bs bs * dot as as - 2 * (dot bs bs * dot as bs) * dot as bs + dot as bs * dot as bs * dot bs bs = dot bs bs * (dot as as * dot bs bs - dot as bs * dot as bs) := by grind
    rw [e] at q
    have := Int.nonneg_of_mul_nonneg_right (a := dot bs bs) (b := dot as as * dot bs bs - dot as bs * dot as bs) q hp
    omega
  · rw [dot_zero as bs h h0.symm, ← h0]
    simp
theorem dot_axpy (s : Int) : ∀ (u x v : List Int), u.length = x.length → x.length = v.length → dot ((u.zip x).map fun p => p.1 + s * p.2) v = dot u v + s * dot x v
  | [], [], v, _, _ => by simp [dot_nil]
  | _ :: _, [], _, h, _ => by cases h
  | [], _ :: _, _, h, _ => by cases h
  | a :: u, b :: x, [], _, h => by cases h
  | a :: u, b :: x, c :: v, h1, h2 => by
    have ih := dot_axpy s u x v (Nat.succ.inj h1) (Nat.succ.inj h2)
    rw [List.zip_cons_cons, List.map_cons, dot_cons, ih, dot_cons, dot_cons]
    grind
structure PaI (n : Nat) (w : List Int) (sg : List Sig) (u : List Int) (m : Int) : Prop where
  len : u.length = n
  m0 : 0 ≤ m
  sl : ∀ e ∈ sg, e.1.length = n ∧ (e.2 = 1 ∨ e.2 = -1) ∧ 0 < e.2 * dot w e.1
  lo : ∀ g, (∀ e ∈ sg, g ≤ e.2 * dot w e.1) → m * g ≤ dot u w
  hi : ∀ R, (∀ e ∈ sg, dot e.1 e.1 ≤ R) → dot u u ≤ m * R
theorem dot_rep0 (n : Nat) (w : List Int) : dot (List.replicate n 0) w = 0 := by
  induction n generalizing w with
  | zero => rfl
  | succ n ih =>
    cases w with
    | nil => exact dot_nil' _
    | cons c w => rw [List.replicate_succ, dot_cons, ih]; omega
theorem PaI.zero (n : Nat) (w : List Int) : PaI n w [] (List.replicate n 0) 0 :=
  ⟨List.length_replicate, Int.le_refl _, fun e h => (by cases h), fun g _ => by rw [dot_rep0]; omega, fun R _ => by rw [dot_rep0]; omega⟩
theorem PaI.step {n : Nat} {w : List Int} {sg : List Sig} {u : List Int} {m : Int} (h : PaI n w sg u m) (hw : w.length = n) {e : Sig} (he : e.1.length = n) (hs : e.2 = 1 ∨ e.2 = -1) (hp : 0 < e.2 * dot w e.1) :
    PaI n w (sg ++ [e]) (partW u e) (partM u e m) := by
  have sl : ∀ e' ∈ sg ++ [e], e'.1.length = n ∧ (e'.2 = 1 ∨ e'.2 = -1) ∧ 0 < e'.2 * dot w e'.1 := fun e' h' => by
    rcases List.mem_append.mp h' with h' | h'
    · exact h.sl e' h'
    · rw [List.mem_singleton.mp h']; exact ⟨he, hs, hp⟩
  unfold partW partM
  by_cases hk : pwrong u e = true
  · rw [if_pos hk, if_pos hk]
    have hk := of_decide_eq_true hk
    have hlen : ((u.zip e.1).map fun p => p.1 + e.2 * p.2).length = n := by rw [List.length_map, List.length_zip, h.len, he, Nat.min_self]
    refine ⟨hlen, by have := h.m0; omega, sl, fun g hg => ?_, fun R hR => ?_⟩
    · rw [dot_axpy _ _ _ _ (by rw [h.len, he]) (by rw [he, hw]), dot_comm e.1 w]
      have h1 := h.lo g fun e' h' => hg e' (List.mem_append_left _ h')
      have h2 := hg e (List.mem_append_right _ List.mem_cons_self)
      rw [Int.add_mul, Int.one_mul]
      omega
    · have h1 := h.hi R fun e' h' => hR e' (List.mem_append_left _ h')
      have h2 := hR e (List.mem_append_right _ List.mem_cons_self)
      have E1 := dot_axpy e.2 u e.1 ((u.zip e.1).map fun p => p.1 + e.2 * p.2) (by rw [h.len, he]) (by rw [he, hlen])
      have E2 := dot_axpy e.2 u e.1 u (by rw [h.len, he]) (by rw [h.len, he])
      have E3 := dot_axpy e.2 u e.1 e.1 (by rw [h.len, he]) rfl
      rw [E1, dot_comm u, E2, dot_comm e.1 (List.map _ _), E3, dot_comm e.1 u]
      have e2 : e.2 * (dot u e.1 + e.2 * dot e.1 e.1) = e.2 * dot u e.1 + dot e.1 e.1 := by
        rcases hs with q | q <;> rw [q] <;> omega
      rw [e2, Int.add_mul, Int.one_mul]
      omega
  · rw [if_neg hk, if_neg hk]
    exact ⟨h.len, h.m0, sl, fun g hg => h.lo g fun e' h' => hg e' (List.mem_append_left _ h'), fun R hR => h.hi R fun e' h' => hR e' (List.mem_append_left _ h')⟩
theorem foldl_min_le : ∀ (r : List Int) (n : Int), ∀ x ∈ n :: r, r.foldl min n ≤ x
  | [], n, x, h => by rw [List.mem_singleton.mp h]; exact Int.le_refl _
  | a :: r, n, x, h => by
    have ih := foldl_min_le r (min n a)
    rw [List.foldl_cons]
    have h0 := ih _ List.mem_cons_self
    rcases List.mem_cons.mp h with e | e
    · subst e; omega
    · rcases List.mem_cons.mp e with e | e
      · subst e; omega
      · exact ih x (List.mem_cons_of_mem _ e)
theorem foldl_max_ge : ∀ (r : List Int) (n : Int), ∀ x ∈ n :: r, x ≤ r.foldl max n
  | [], n, x, h => by rw [List.mem_singleton.mp h]; exact Int.le_refl _
  | a :: r, n, x, h => by
    have ih := foldl_max_ge r (max n a)
    rw [List.foldl_cons]
    have h0 := ih _ List.mem_cons_self
    rcases List.mem_cons.mp h with e | e
    · subst e; omega
    · rcases List.mem_cons.mp e with e | e
      · subst e; omega
      · exact ih x (List.mem_cons_of_mem _ e)
theorem foldl_max_le {B : Int} : ∀ (r : List Int) (n : Int), (∀ x ∈ n :: r, x ≤ B) → r.foldl max n ≤ B
  | [], n, h => h n List.mem_cons_self
  | a :: r, n, h => foldl_max_le r (max n a) fun x hx => by
    rcases List.mem_cons.mp hx with e | e
    · have := h n List.mem_cons_self
      have := h a (List.mem_cons_of_mem _ List.mem_cons_self)
      omega
    · exact h x (List.mem_cons_of_mem _ (List.mem_cons_of_mem _ e))
theorem great_ge {sg : List Sig} {e : Sig} (h : e ∈ sg) : dot e.1 e.1 ≤ great sg := by
  have hm : dot e.1 e.1 ∈ sg.map fun e => dot e.1 e.1 := List.mem_map.mpr ⟨e, h, rfl⟩
  unfold great
  generalize (sg.map fun e => dot e.1 e.1) = L at hm ⊢
  cases L with
  | nil => cases hm
  | cons n r => exact foldl_max_ge r n _ hm
theorem great_le {sg : List Sig} {B : Int} (h0 : 0 ≤ B) (h : ∀ e ∈ sg, dot e.1 e.1 ≤ B) : great sg ≤ B := by
  have hh : ∀ x ∈ (sg.map fun e => dot e.1 e.1), x ≤ B := fun x hx => by
    obtain ⟨e, he, rfl⟩ := List.mem_map.mp hx
    exact h e he
  unfold great
  generalize (sg.map fun e => dot e.1 e.1) = L at hh ⊢
  cases L with
  | nil => exact h0
  | cons n r => exact foldl_max_le r n hh
theorem great_nn (sg : List Sig) : 0 ≤ great sg := by
  cases sg with
  | nil => exact Int.le_refl _
  | cons e r =>
    have := great_ge (sg := e :: r) List.mem_cons_self
    have := dot_nn e.1
    omega
theorem PaI.bound {n : Nat} {w : List Int} {sg : List Sig} {u : List Int} {m : Int} (h : PaI n w sg u m) (hw : w.length = n) : sideB m sg w = true := by
  unfold sideB
  match hq : edges sg w with
  | [] => rfl
  | x :: r =>
    have hg : ∀ e ∈ sg, r.foldl min x ≤ e.2 * dot w e.1 := fun e he => foldl_min_le r x _ (by rw [← hq]; exact List.mem_map.mpr ⟨e, he, rfl⟩)
    have hpos : 0 < r.foldl min x := by
      have := foldl_min_mem r x
      rw [← hq] at this
      obtain ⟨e, he, q⟩ := List.mem_map.mp this
      rw [← q]
      exact (h.sl e he).2.2
    have lo := h.lo _ hg
    have hi := h.hi (great sg) fun e he => great_ge he
    have cs := cauchy u w (by rw [h.len, hw])
    have m0 := h.m0
    have W := dot_nn w
    have R := great_nn sg
    refine decide_eq_true ?_
    generalize r.foldl min x = g at *
    generalize great sg = R' at *
    rcases Int.lt_or_eq_of_le m0 with mp | m0
    · have p1 : 0 ≤ m * g := Int.mul_nonneg (Int.le_of_lt mp) (Int.le_of_lt hpos)
      have p2 : m * g * (m * g) ≤ dot u w * dot u w := Int.mul_le_mul lo lo p1 (by omega)
      have p3 : dot u u * dot w w ≤ m * R' * dot w w := Int.mul_le_mul_of_nonneg_right hi W
      have p4 : m * (m * g * g) ≤ m * (R' * dot w w) := by
        have e1 : m * (m * g * g) = m * g * (m * g) := by grind
        have e2 : m * (R' * dot w w) = m * R' * dot w w := by grind
        omega
      exact Int.le_of_mul_le_mul_left p4 mp
    · rw [← m0]
      have := Int.mul_nonneg R W
      simp
      exact this
/-! sizes -/
theorem dot_bits {A : Int} (hA : 0 ≤ A) : ∀ (as bs : List Int), (∀ a ∈ as, -A ≤ a ∧ a ≤ A) → (∀ b ∈ bs, b = 0 ∨ b = 1) → -(A * bs.length) ≤ dot as bs ∧ dot as bs ≤ A * bs.length
  | [], bs, _, _ => by
    rw [dot_nil]
    have := Int.mul_nonneg hA (Int.natCast_nonneg bs.length)
    omega
  | _ :: _, [], _, _ => by rw [dot_nil']; simp
  | a :: as, b :: bs, h1, h2 => by
    have ih := dot_bits hA as bs (fun x hx => h1 x (List.mem_cons_of_mem _ hx)) fun x hx => h2 x (List.mem_cons_of_mem _ hx)
    have ha := h1 a List.mem_cons_self
    rw [dot_cons, List.length_cons]
    have e : A * ((bs.length + 1 : Nat) : Int) = A * bs.length + A := by
      rw [Int.natCast_add, Int.mul_add]
      simp
    rw [e]
    rcases h2 b List.mem_cons_self with q | q
    · rw [q, Int.mul_zero]; omega
    · rw [q, Int.mul_one]; omega
/-- the sum by places -/
theorem dot_places (n : Nat) : ∀ (as bs : List Int), as.length = n → bs.length = n → ((List.range n).map fun i => as.getD i 0 * bs.getD i 0).sum = dot as bs := by
  induction n with
  | zero =>
    intro as bs h1 h2
    have : as = [] := List.length_eq_zero_iff.mp h1
    rw [this]
    rfl
  | succ n ih =>
    intro as bs h1 h2
    match as, bs, h1, h2 with
    | a :: as, b :: bs, h1, h2 =>
      rw [List.range_succ_eq_map, List.map_cons, List.sum_cons, List.map_map, dot_cons]
      have := ih as bs (Nat.succ.inj h1) (Nat.succ.inj h2)
      rw [← this]
      rfl
end H65

set_option Elab.async false
set_option linter.all false
set_option maxRecDepth 100000
set_option maxHeartbeats 1000000
/-! k65: what the vote says, in numbers. -/
namespace H65
open PySem PySem.Spec PyProof.Rows L2 LW
theorem sum_cast (g : Nat → Nat) : ∀ ws : List Nat, (ws.map fun c => iN (g c)).sum = iN ((ws.map g).sum)
  | [] => rfl
  | c :: ws => by
    rw [List.map_cons, List.sum_cons, sum_cast g ws, List.map_cons, List.sum_cons]
    unfold iN
    omega
theorem sumIf_cast (g : Nat → Nat) : ∀ (ws : List Nat) (as : List Bool), sumIf ((ws.map fun c => iN (g c)).zip as) (·.2) (·.1) = iN (((ws.zip as).filter fun x => x.2).map fun x => g x.1).sum
  | [], as => by simp [sumIf, iN]
  | _ :: _, [] => by simp [sumIf, iN]
  | c :: ws, a :: as => by
    have ih := sumIf_cast g ws as
    unfold sumIf at ih ⊢
    rw [List.map_cons, List.zip_cons_cons, List.zip_cons_cons, List.filter_cons, List.filter_cons]
    cases a with
    | true =>
      rw [if_pos rfl, if_pos rfl, List.map_cons, List.map_cons, List.sum_cons, List.sum_cons, ih]
      exact (Int.natCast_add _ _).symm
    | false =>
      rw [if_neg Bool.false_ne_true, if_neg Bool.false_ne_true, ih]
theorem phi_scale {t m : Nat} (h : m ≤ t) : ∀ (ws : List Nat), (∀ c ∈ ws, c ≤ m) → phi t ws = 2 ^ (t - m) * phi m ws
  | [], _ => rfl
  | c :: ws, hc => by
    have ih := phi_scale h ws fun c hc' => hc c (List.mem_cons_of_mem _ hc')
    have h1 := hc c List.mem_cons_self
    unfold phi at ih ⊢
    rw [List.map_cons, List.sum_cons, ih, List.map_cons, List.sum_cons, Nat.mul_add, ← Nat.pow_add]
    congr 2
    omega
theorem phiP_scale {t m : Nat} (h : m ≤ t) (p : Bool → Bool) : ∀ (xs : List (Nat × Bool)), (∀ x ∈ xs, x.1 ≤ m) → phiP t xs p = 2 ^ (t - m) * phiP m xs p
  | [], _ => rfl
  | x :: xs, hc => by
    have ih := phiP_scale h p xs fun c hc' => hc c (List.mem_cons_of_mem _ hc')
    have h1 := hc x List.mem_cons_self
    unfold phiP at ih ⊢
    rw [List.filter_cons]
    split
    · rw [List.map_cons, List.sum_cons, ih, List.map_cons, List.sum_cons, Nat.mul_add, ← Nat.pow_add]
      congr 2
      omega
    · exact ih
theorem vguess_eq {ws : List Nat} {as : List Bool} {t : Nat} (h0 : 0 < ws.length) (ht : ∀ c ∈ ws, c ≤ t) : vguess (ws.map iN) as = decide (phi t ws ≤ 2 * phiP t (ws.zip as) fun a => a) := by
  obtain ⟨z1, z2⟩ := lmax_spec (ns := ws.map iN) (by rw [List.length_map]; exact h0)
  obtain ⟨m, hm, em⟩ := List.mem_map.mp z1
  have hc : ∀ c ∈ ws, c ≤ m := fun c hc => by
    have := z2 _ (List.mem_map.mpr ⟨c, hc, rfl⟩)
    rw [← em] at this
    unfold iN at this
    omega
  have e : wts (ws.map iN) = ws.map fun c => iN (2 ^ (m - c)) := by
    unfold wts
    rw [List.map_map, ← em]
    refine List.map_congr_left fun c hcc => ?_
    have := hc c hcc
    show (2 : Int) ^ (iN m - iN c).toNat = iN (2 ^ (m - c))
    unfold iN
    rw [show ((m : Int) - (c : Int)).toNat = m - c from by omega, Int.natCast_pow]
    rfl
  unfold vguess
  rw [e, sum_cast (fun c => 2 ^ (m - c)), sumIf_cast (fun c => 2 ^ (m - c)), phi_scale (ht m hm) ws hc, phiP_scale (ht m hm) _ _ fun x hx => hc x.1 (List.of_mem_zip (a := x.1) (b := x.2) hx).1]
  have e1 : (ws.map fun c => 2 ^ (m - c)).sum = phi m ws := rfl
  have e2 : (((ws.zip as).filter fun x => x.2).map fun x => 2 ^ (m - x.1)).sum = phiP m (ws.zip as) fun a => a := rfl
  rw [e1, e2]
  have kp : 0 < 2 ^ (t - m) := Nat.pow_pos (by decide)
  generalize phi m ws = a
  generalize phiP m (ws.zip as) (fun a => a) = b
  generalize 2 ^ (t - m) = k at *
  have : (iN a ≤ 2 * iN b) ↔ (k * a ≤ 2 * (k * b)) := by
    rw [Nat.mul_left_comm]
    constructor
    · intro h
      exact Nat.mul_le_mul_left _ (by unfold iN at h; omega)
    · intro h
      have := Nat.le_of_mul_le_mul_left h kp
      unfold iN
      omega
  exact decide_eq_decide.mpr this
def lossN (as : List Bool) (r : Bool) : List Nat := as.map fun a => if !decide (a = r) then 1 else 0
theorem nextW_mix : ∀ (ws : List Nat) (as : List Bool) (r : Bool), nextW ws as r = mixL ws (lossN as r)
  | [], _, _ => rfl
  | _ :: _, [], _ => rfl
  | c :: ws, a :: as, r => by
    have ih := nextW_mix ws as r
    unfold nextW mixL lossN at ih ⊢
    rw [List.zip_cons_cons, List.map_cons, List.map_cons, List.zip_cons_cons, List.map_cons, ih]
theorem voteW_mix : ∀ (ws : List Nat) (as : List Bool) (r : Bool), voteW (ws.map iN) as r = (mixL ws (lossN as r)).map iN
  | [], _, _ => rfl
  | _ :: _, [], _ => rfl
  | c :: ws, a :: as, r => by
    have ih := voteW_mix ws as r
    unfold voteW mixL lossN at ih ⊢
    rw [List.map_cons, List.zip_cons_cons, List.map_cons, List.map_cons, List.zip_cons_cons, List.map_cons, List.map_cons, ih]
    cases hd : decide (a = r) with
    | true => simp [hd, iN]
    | false => simp [hd, iN]
theorem lossN_01 (as : List Bool) (r : Bool) : ∀ z ∈ lossN as r, z = 0 ∨ z = 1 := fun z hz => by
  obtain ⟨a, _, rfl⟩ := List.mem_map.mp hz
  split
  · exact .inr rfl
  · exact .inl rfl
theorem mixL_len {ws l : List Nat} (h : ws.length = l.length) : (mixL ws l).length = ws.length := by
  unfold mixL
  rw [List.length_map, List.length_zip, ← h, Nat.min_self]
end H65

set_option Elab.async false
set_option linter.all false
set_option maxRecDepth 100000
set_option maxHeartbeats 4000000
/-! k65: the law's turn. -/
namespace H65
open PySem PySem.Spec PyProof.Rows L2 LW
abbrev lawN : List Str := ["script", "dice", "many", "bits", "places", "weights", "rules", "hidden", "left", "plain", "doubling", "parter", "halving", "vote", "mix", "signed", "wrong", "trues", "turn", "point", "good", "whole", "k", "right", "bit", "one", "rule", "j"]
theorem sc_law : FnScope lawN ["script"] (defScope s_law) := ⟨rfl, rfl, rfl, by decide +kernel, rfl, by decide +kernel, by decide +kernel⟩
def roundBody : List Stmt := match defBody s_law with
  | .For _ _ b _ _ :: _ => b
  | _ => []
def turnBody : List Stmt := match roundBody.drop 9 with
  | .For _ _ b _ _ :: _ => b
  | _ => []
theorem pd_eqE {α : Type} [DecidableEq α] {n : Nat} {f : α → D} {g : α → PyData} {X : Cx} {T : List Addr} {ρ : List (Option D)} {M M1 M2 : Mem} {a b : Expr} {pos : Pos} {x y : α} (E : EncP n f g) (hu : X.A.units + 64 < cLine) (ha : PD X T ρ M a (f x) M1) (hb : PD X T ρ M1 b (f y) M2) (hn : n ≤ 64 := by decide) (hm : behindInMarks .Eq b = false := by first | exact nomark _ | rfl | with_unfolding_all rfl) : PD X T ρ M (.Compare a [.Eq] [b] pos) (.bl (decide (x = y))) M2 :=
  pd_eqD hu (E.pv x) (E.pv y) (E.shaped hn x) (E.shaped hn y) (E.eqv x y) ha hb hm
theorem pd_neE {α : Type} [DecidableEq α] {n : Nat} {f : α → D} {g : α → PyData} {X : Cx} {T : List Addr} {ρ : List (Option D)} {M M1 M2 : Mem} {a b : Expr} {pos : Pos} {x y : α} (E : EncP n f g) (hu : X.A.units + 64 < cLine) (ha : PD X T ρ M a (f x) M1) (hb : PD X T ρ M1 b (f y) M2) (hn : n ≤ 64 := by decide) (hm : behindInMarks .NotEq b = false := by first | exact nomark _ | rfl | with_unfolding_all rfl) : PD X T ρ M (.Compare a [.NotEq] [b] pos) (.bl (!decide (x = y))) M2 :=
  pd_neD hu (E.pv x) (E.pv y) (E.shaped hn x) (E.shaped hn y) (by rw [E.eqv x y]) ha hb hm
section
variable {X : Cx} {T : List Addr} {ρ : List (Option D)} {M M1 M2 M3 : Mem} {d da db dc : D} {a b c e o : Expr} {es : List Expr} {pos p apos : Pos} {ds dvs : List D} {R : D → Mem → Prop}
  {α : Type} {args : α → List D} {Mf : α → Mem} {post : α → D → Mem → Prop} {k : Nat} {f C : Addr} {ps : List Str} {nm : Str}
theorem pd_mJ (j : Nat) (x : α) {c0 c1 : Option (Addr × Ob)} {dv : D} {fs : List (Str × D)} {pl : Sem Bool} (Cl : Cal X.prog X.w X.K X.mg X.base k f ps (spC X.w T args Mf post)) (hr : Room k X.A) (c : Cls X.K C) (hm : Meth X.K C nm f)
    (ho : PD X T ρ M o da M1) (ov : OV M1 da C fs) (ha : PDL X T ρ M1 (e :: es) ds M2) (hx : args x = da :: ds) (hf : Mf x = [c0]) (hj : M2[j]? = some c0) (hp : ∀ d m, post x d m → d = dv ∧ m = [c1]) (hl : fs.lookup nm = none := by rfl)
    (hst : starEach (e :: es) X.env = (false, eval e X.env) :: starEach es X.env := by rfl) (hpl : (backTo pos (starEach es X.env)).any (·.1) = false := by rfl)
    (ht : eval (.Call (.Attribute o nm apos) (e :: es) [] pos) X.env = (do
      let ov ← eval o X.env
      standAt apos.atName
      let (f, first) ← holding [ov] (getMethod ov nm pl)
      callWith pos f first (backTo pos (starEach (e :: es) X.env)) (backToKw pos (keywordEach [] X.env))) := by rfl) :
    PD X T ρ M (.Call (.Attribute o nm apos) (e :: es) [] pos) dv (M2.set j c1) :=
  pd_ofR (pdr_mC x (Mo := fun m => match m with | [] => M2.eraseIdx j | c' :: r => M2.set j c' ++ r) Cl hr c hm ho ov ha hx (by rw [hf]; exact Fram.one j hj) hl hst hpl ht) fun d m ⟨m', e1, e2⟩ => by
    obtain ⟨e3, e4⟩ := hp d m' e2
    exact ⟨e3, by rw [e1, e4]; exact List.append_nil _⟩
theorem pd_cJ (j : Nat) (x : α) {c0 c1 : Option (Addr × Ob)} {dv : D} (Cl : Cal X.prog X.w X.K X.mg X.base k f ps (spC X.w T args Mf post)) (hr : Room k X.A) (hm : X.mg nm = some (.ref f))
    (ha : PDL X T ρ M (e :: es) ds M1) (hx : args x = ds) (hf : Mf x = [c0]) (hj : M1[j]? = some c0) (hp : ∀ d m, post x d m → d = dv ∧ m = [c1]) (hg : Gl X nm := by rfl) (hdb : (nm == ("__debug__" : Str)) = false := by decide) (he : starEach (e :: es) X.env = (false, eval e X.env) :: starEach es X.env := by rfl) (hpl : (backTo pos (starEach es X.env)).any (·.1) = false := by rfl) :
    PD X T ρ M (.Call (.Name nm p) (e :: es) [] pos) dv (M1.set j c1) :=
  pd_ofR (pdr_cC x (Mo := fun m => match m with | [] => M1.eraseIdx j | c' :: r => M1.set j c' ++ r) Cl hr hm ha hx (by rw [hf]; exact Fram.one j hj) hg hdb he hpl) fun d m ⟨m', e1, e2⟩ => by
    obtain ⟨e3, e4⟩ := hp d m' e2
    exact ⟨e3, by rw [e1, e4]; exact List.append_nil _⟩
end
/-- what a round fixes -/
structure Rnd where
  a : Addr
  p : Addr
  q1 : Addr
  q2 : Addr
  q3 : Addr
  q4 : Addr
  q5 : Addr
  q6 : Addr
  q7 : Addr
  n : Nat
  bits : Bits
  pl : List Int
  wt : List Int
  rs : List Rul
  hid : Rul
structure ROk (R : Rnd) : Prop where
  n0 : 0 < R.n
  n1 : R.n ≤ 12
  ob : BitsOk R.n R.bits
  bl : R.bits.length ≤ 1000
  b01 : ∀ p ∈ R.bits, p.2 = 0 ∨ p.2 = 1
  pl0 : ∀ p ∈ R.pl, 0 ≤ p ∧ p < R.n
  pl1 : R.pl.length ≤ 1000
  wl : R.wt.length = R.n
  wb : ∀ x ∈ R.wt, -100 ≤ x ∧ x ≤ 100
  ru : RuOk R.n R.rs
  rn : R.rs.length ≤ 60
  hm : R.hid ∈ R.rs
/-- what a turn changes -/
structure Sta where
  c : Dice
  b : Option Bits
  pm : Int
  wi : Win
  pw : List Int
  pn : Int
  hrs : List Rul
  hm : Int
  vm : Nat
  ws : List Nat
  mw : List Nat
  lo : Nat × Nat
  re : Nat × Nat
  sg : List Sig
  tr : List (List Int)
def bits01 (pt : List Int) : Prop := ∀ b ∈ pt, b = 0 ∨ b = 1
structure SOk (R : Rnd) (t u : Nat) (S : Sta) : Prop where
  pl : PlI R.n R.bits S.tr S.b S.pm
  tl : S.tr.length ≤ u
  tn : ∀ x ∈ S.tr, x.length = R.n
  wi : WinI R.n R.pl S.wi
  pa : PaI R.n R.wt S.sg S.pw S.pn
  sl : S.sg.length ≤ u
  sb : ∀ e ∈ S.sg, bits01 e.1
  pn : S.pn ≤ u
  ha : HaI R.rs.length R.hid S.hrs S.hm
  hr : ∀ r ∈ S.hrs, r ∈ R.rs
  hl : S.hrs.length ≤ 60
  vo : VoI R.rs.length 1000 S.ws S.vm
  vt : S.vm ≤ t
  mi : MiI R.rs.length t S.mw S.ws S.lo S.re
abbrev ptD (pt : List Int) : D := .tup (pt.map D.int)
def rho (K : PySem.W.Frag) (R : Rnd) (S : Sta) (t pt gd wh k rt : Option D) : List (Option D) := [some (.ref R.a), some (.ref R.p), some (.int R.n), some (.lst (R.bits.map pairD)), some (.lst (R.pl.map D.int)), some (.lst (R.wt.map D.int)), some (.lst (R.rs.map rD)), some (rD R.hid), some (.lst (S.hrs.map rD)),
  some (.ref R.q1), some (.ref R.q2), some (.ref R.q3), some (.ref R.q4), some (.ref R.q5), some (.ref R.q6), some (.ref R.q7), some (.lst ((S.ws.map iN).map D.int)), some (.lst (S.tr.map ptD)), t, pt, gd, wh, k, rt, none, none, none, none]
def mem (K : PySem.W.Frag) (R : Rnd) (S : Sta) : Mem := [some (R.p, .lst (diceD S.c)), some (R.q1, .obj (He.ga K "Learner") (learnF (He.ga K "And") R.n S.b S.pm)), some (R.q2, .obj (He.ga K "Winnow") (winF S.wi)), some (R.q3, .obj (He.ga K "Parter") (partF S.pw S.pn)),
  some (R.q4, .obj (He.ga K "Halving") (halfF S.hrs S.hm)), some (R.q5, .obj (He.ga K "Vote") (voteF (S.ws.map iN) S.vm)), some (R.q6, .obj (He.ga K "Mix") (mixF S.mw S.ws S.lo S.re)), some (R.q7, .lst (S.sg.map sD))]
abbrev LX (P : Program) (w : World) (K : PySem.W.Frag) (mg : Str → Option Value) (base : Heap) (A : Around) (outer : List Env) (s : Shared) (H : Hp) (E : XK) : Cx := (cxOf CX0 P w K mg base lawN "law" (defScope s_law) (He.fAd K ("law", none)) (.ref (He.codeOf K ("law", none))) A outer s H E).nox
abbrev lawA (K : PySem.W.Frag) (A : Around) (s : Shared) : Around := A.deeper (envOfC "law" (defScope s_law) s.heap.objs.size (He.fAd K ("law", none)) (.ref (He.codeOf K ("law", none))))
def fixP (bits : Bits) (pt : List Int) (n : Nat) : List Int := (List.range n).map fun (i : Nat) => (getB bits i).getD (pt.getD i 0)
section
variable {P : Program} {w : World} {K : PySem.W.Frag} {mg : Str → Option Value} {base : Heap} {A : Around} {outer : List Env} {s : Shared} {H : Hp} {E : XK}
theorem good_eq (bits : Bits) (pt : List Int) : decide (((bits.filter fun p => !decide (ptAt pt p.1 = p.2)).map fun _ => (1 : Int)) = []) = goodF bits pt := by
  unfold goodF
  induction bits with
  | nil => rfl
  | cons p r ih =>
    rw [List.filter_cons, List.all_cons]
    cases hd : decide (ptAt pt p.1 = p.2) with
    | true => simp only [Bool.not_true, Bool.false_eq_true, if_false, Bool.true_and]; exact ih
    | false => simp
theorem on_eq (pl : List Int) (pt : List Int) : (!decide (((pl.filter fun p => decide (ptAt pt p = 1)).map fun _ => (1 : Int)) = [])) = onF pl pt := by
  unfold onF
  induction pl with
  | nil => rfl
  | cons p r ih =>
    rw [List.filter_cons, List.any_cons]
    cases hd : decide (ptAt pt p = 1) with
    | true => simp
    | false => simp only [Bool.false_eq_true, if_false, Bool.false_or]; exact ih
/-- the point of a turn -/
theorem turn_point (F : Fx P w K mg base) (hr : Room 4 (lawA K A s)) {R : Rnd} (ok : ROk R) {S : Sta} {t : Nat} {o1 o2 o3 o4 o5 : Option D} {Nx : List (Option D) → Mem → Prop} {Rt : D → Mem → Prop}
    (k : ∀ (c : Dice) (pt : List Int), pt.length = R.n → bits01 pt → PB (LX P w K mg base A outer s H E) (Tb K) (rho K R S (some (.int t)) (some (ptD pt)) o2 o3 o4 o5) (mem K R { S with c := c }) (turnBody.drop 2) Nx Rt) :
    PB (LX P w K mg base A outer s H E) (Tb K) (rho K R S (some (.int t)) o1 o2 o3 o4 o5) (mem K R S) turnBody Nx Rt := by
  have nd := sc_law.nd
  have n1 := ok.n1
  have hr1 : Room 1 (lawA K A s) := hr.mono (by decide)
  have pl : (rollL S.c 2 R.n).length = R.n := rollL_len _ _ _
  have pb : bits01 (rollL S.c 2 R.n) := fun b hb => by
    have := rollL_range S.c (m := 2) (by decide) R.n b hb
    omega
  refine pb_set (d := ptD (rollL S.c 2 R.n)) (M1 := mem K R { S with c := rollsC S.c 2 R.n }) 19 (pd_tupL LV.dat F.free_tuple (pd_cast (pd_lcN (Ms := fun i => mem K R { S with c := rollsC S.c 2 i }) (Mt := fun i => mem K R { S with c := rollsC S.c 2 i }) (kp := fun _ => true) (el := fun i => .int (rollV (rollsC S.c 2 i) 2)) (own := [("k", 22)]) 22
    (pdi_range1 (j := R.n) F.free_range (pd_var 2) (by omega) (by omega)) nd (blkOk_by (by kernel_rfl)) (fun s H C cl fp => pg_name nd rfl (Or.inl rfl)) (tgt_name 22) (by decide) rfl (fun _ _ h => by cases h) (by omega)
    (fun i hi s H C cl fp => pdts_nil) fun i hi _ s H C cl fp => pd_roll F 0 (by decide) (by decide) hr1 (pd_var 1) pd_int) (by rw [given_all]; unfold rollL; rw [List.map_map]; rfl))) nd ?_
  have c01 : bits01 (fixP R.bits (rollL S.c 2 R.n) R.n) := fun b hb => by
    obtain ⟨i, hi, rfl⟩ := List.mem_map.mp hb
    have hi := List.mem_range.mp hi
    cases hg : getB R.bits i with
    | some v =>
      unfold getB at hg
      obtain ⟨q, hq, rfl⟩ := Option.map_eq_some_iff.mp hg
      exact ok.b01 q (List.mem_of_find?_eq_some hq)
    | none =>
      show (rollL S.c 2 R.n).getD i 0 = 0 ∨ (rollL S.c 2 R.n).getD i 0 = 1
      rw [List.getD_eq_getElem?_getD, List.getElem?_eq_getElem (by omega)]
      exact pb _ (List.getElem_mem _)
  refine pb_if (k := decide (rollV (rollsC S.c 2 R.n) 2 = 0)) (Nx1 := fun ρ' m' => ρ' = rho K R S (some (.int t)) (some (ptD (if decide (rollV (rollsC S.c 2 R.n) 2 = 0) = true then fixP R.bits (rollL S.c 2 R.n) R.n else rollL S.c 2 R.n))) o2 o3 o4 o5 ∧ m' = mem K R { S with c := rollC (rollsC S.c 2 R.n) 2 })
    (pdt_eqI (pd_roll F 0 (by decide) (by decide) hr1 (pd_var 1) pd_int) pd_int) (fun hk => ?_) (fun hk => ?_) fun ρ' m' ⟨e1, e2⟩ => ?_
  · rw [if_pos hk]
    refine pb_set (d := ptD (fixP R.bits (rollL S.c 2 R.n) R.n)) 19 (pd_tupL LV.dat F.free_tuple (pd_cast (pd_lcN (Ms := fun i => mem K R { S with c := rollC (rollsC S.c 2 R.n) 2 }) (Mt := fun i => mem K R { S with c := rollC (rollsC S.c 2 R.n) 2 }) (kp := fun _ => true) (el := fun (i : Nat) => .int ((getB R.bits i).getD ((rollL S.c 2 R.n).getD i 0))) (own := [("k", 22)]) 22
      (pdi_range1 (j := R.n) F.free_range (pd_var 2) (by omega) (by omega)) nd (blkOk_by (by kernel_rfl)) (fun s H C cl fp => pg_name nd rfl (Or.inl rfl)) (tgt_name 22) (by decide) rfl (fun _ _ h => by cases h) (by omega)
      (fun i hi s H C cl fp => pdts_nil) fun i hi _ s H C cl fp => pd_cast (pd_get2 (ps := R.bits.map eB) (i := i) (db := .int ((rollL S.c 2 R.n).getD i 0)) DV.dat DV.dat (pd_cast (pd_dictI (ps := R.bits.map eB) (da := .lst (R.bits.map pairD)) (by rw [← bK_pr]; exact LV.dat) (by rw [List.length_map]; exact Nat.le_trans ok.bl (by decide)) F.free_dict (pd_var 3)) (by show D.dic (dmrg [] (bK R.bits)) = D.dic (bK R.bits); rw [dmrg_bK ok.ob.nd]))
        (pd_var 22) (pd_ixT (ds := (rollL S.c 2 R.n).map D.int) (ptAt_ix (pt := rollL S.c 2 R.n) (k := (i : Int)) (by omega) (by omega)) (pd_var 19) (pd_var 22))) (by
          show ((dget (bK R.bits) (.int i)).getD _) = _
          rw [dget_bK]
          cases getB R.bits i <;> rfl)) (by rw [given_all]; unfold fixP; rw [List.map_map]; rfl))) nd (pb_nil ⟨rfl, rfl⟩)
  · rw [if_neg (by rw [hk]; exact Bool.false_ne_true)]
    exact pb_nil ⟨rfl, rfl⟩
  · subst e1 e2
    refine k _ _ ?_ ?_
    · split
      · simp [fixP]
      · exact pl
    · split
      · exact c01
      · exact pb
end
end H65

set_option Elab.async false
set_option linter.all false
set_option maxRecDepth 100000
set_option maxHeartbeats 4000000
/-! k65: the law's turn, what is seen. -/
namespace H65
open PySem PySem.Spec PyProof.Rows L2 LW
def sgnF (x : Int) : Int := if decide (0 < x) = true then 1 else 0 - 1
def seenP (R : Rnd) (S : Sta) (pt : List Int) : Sta := { S with tr := S.tr ++ (if goodF R.bits pt = true then [pt] else []), b := learnB S.b pt (goodF R.bits pt), pm := learnM S.b pt (goodF R.bits pt) S.pm, wi := wseen S.wi pt (onF R.pl pt) }
def seenS (R : Rnd) (S : Sta) (pt : List Int) : Sta := if (!decide (dot R.wt pt = 0)) = true then { seenP R S pt with pw := partW S.pw (pt, sgnF (dot R.wt pt)), pn := partM S.pw (pt, sgnF (dot R.wt pt)) S.pn, sg := S.sg ++ [(pt, sgnF (dot R.wt pt))] } else seenP R S pt
section
variable {P : Program} {w : World} {K : PySem.W.Frag} {mg : Str → Option Value} {base : Heap} {A : Around} {outer : List Env} {s : Shared} {H : Hp} {E : XK}
theorem b01_z {pt : List Int} (h : bits01 pt) : ∀ b ∈ pt, -(2 ^ 64) < b ∧ b < 2 ^ 64 := fun b hb => by
  rcases h b hb with e | e <;> rw [e] <;> decide
theorem turn_see (F : Fx P w K mg base) (hr : Room 4 (lawA K A s)) {R : Rnd} (ok : ROk R) {S : Sta} {t : Nat} (so : SOk R t t S) (ht : t < 60) {pt : List Int} (hl : pt.length = R.n) (h01 : bits01 pt) {o2 o3 o4 o5 : Option D} {Nx : List (Option D) → Mem → Prop} {Rt : D → Mem → Prop}
    (k : PB (LX P w K mg base A outer s H E) (Tb K) (rho K R (seenS R S pt) (some (.int t)) (some (ptD pt)) (some (.bl (goodF R.bits pt))) (some (.int (dot R.wt pt))) o4 o5) (mem K R (seenS R S pt)) (turnBody.drop 8) Nx Rt) :
    PB (LX P w K mg base A outer s H E) (Tb K) (rho K R S (some (.int t)) (some (ptD pt)) o2 o3 o4 o5) (mem K R S) (turnBody.drop 2) Nx Rt := by
  have nd := sc_law.nd
  have n1 := ok.n1
  have tl := so.tl
  have sl := so.sl
  refine pb_set (d := .bl (goodF R.bits pt)) 20 (pd_cast (pd_eqE encP_int.lst (x := ((R.bits.filter fun p => !decide (ptAt pt p.1 = p.2)).map fun _ => (1 : Int))) (y := []) (un_of hr (by decide)) (pd_cast (pd_lc (own := [("k", 22), ("bit", 24)]) (xs := R.bits) (kp := fun p => !decide (ptAt pt p.1 = p.2)) (enc := pairD) (us := fun p => [.int p.1, .int p.2]) (ed := fun _ => .int 1)
    (pdi_list LV.dat (pd_var 3)) nd (blkOk_by (by kernel_rfl)) (fun s H C cl fp => pg_tup rfl (pgs_cons (pg_name nd (i := 22) rfl (Or.inl rfl)) (pgs_cons (pg_name nd (i := 24) rfl (Or.inl rfl)) pgs_nil))) (tgt_tup [22, 24]) (by decide) LV.dat ⟨rfl, fun _ => rfl⟩
    (Nat.le_trans ok.bl (by decide)) (fun p hp s H C cl fp => pdts_one (pdt_neI (pd_ixT (ptAt_ix (by have := ok.ob.rg p hp; omega) (by have := ok.ob.rg p hp; omega)) (pd_var 19) (pd_var 22)) (pd_var 24))) fun p hp _ s H C cl fp => pd_int) (by rw [List.map_map]; rfl)) (pd_lst pdl_nil)) (by rw [good_eq])) nd ?_
  refine pb_set (d := .lst ((S.tr ++ (if goodF R.bits pt = true then [pt] else [])).map ptD)) 17 (pd_cast (pd_catL (ds := S.tr.map ptD) (es' := (if goodF R.bits pt = true then [pt] else []).map ptD) LV.dat LV.dat ?_ (pd_var 17) (pd_ifc (k := goodF R.bits pt) (pdt_val (pd_var 20)) (fun hk => pd_cast (pd_lst (pdl_1 (pd_var (d := ptD pt) 19))) (by rw [if_pos hk]; rfl)) fun hk => pd_cast (pd_lst pdl_nil) (by rw [if_neg (by rw [hk]; exact Bool.false_ne_true)]; rfl))) (by rw [List.map_append])) nd ?_
  · rw [List.length_map, List.length_map]
    have : (if goodF R.bits pt = true then [pt] else []).length ≤ 1 := by split <;> simp
    exact Nat.le_trans (m := 100) (by omega) (by decide)
  refine pb_expr (pd_mJ 1 (⟨R.q1, R.n, S.b, S.pm, pt, goodF R.bits pt, ⟨by rw [hl]; exact so.pl.ok, by omega⟩, so.pl.take⟩ : LsA) (Ls_ok F) (hr.mono (by decide)) F.cls_Learner F.meth_Learner_see (pd_var 9) (OV.own 1) (pdl_cons (pd_var 19) (pdl_1 (pd_var 20))) rfl rfl rfl fun d m h => h) ?_
  refine pb_expr (pd_mJ 2 (⟨⟨R.q2, S.wi, pt, by omega⟩, onF R.pl pt, so.wi.dead ok.pl0 hl⟩ : WsA) (Ws_ok F) (hr.mono (by decide)) F.cls_Winnow F.meth_Winnow_see (pd_var 10) (OV.own 2) (pdl_cons (pd_var 19) (pdl_1
    (pd_cast (pd_neE encP_int.lst (x := ((R.pl.filter fun p => decide (ptAt pt p = 1)).map fun _ => (1 : Int))) (y := []) (un_of hr (by decide)) (pd_cast (pd_lc (own := [("k", 22)]) (xs := R.pl) (kp := fun p => decide (ptAt pt p = 1)) (enc := D.int) (us := fun p => [.int p]) (ed := fun _ => .int 1)
      (pdi_list LV.dat (pd_var 4)) nd (blkOk_by (by kernel_rfl)) (fun s H C cl fp => pg_name nd (i := 22) rfl (Or.inl rfl)) (tgt_name 22) (by decide) LV.dat ⟨rfl, fun _ => rfl⟩
      (Nat.le_trans ok.pl1 (by decide)) (fun p hp s H C cl fp => pdts_one (pdt_eqI (pd_ixT (ptAt_ix (by have := ok.pl0 p hp; omega) (by have := ok.pl0 p hp; omega)) (pd_var 19) (pd_var 22)) pd_int)) fun p hp _ s H C cl fp => pd_int) (by rw [List.map_map]; rfl)) (pd_lst pdl_nil)) (by rw [on_eq])))) rfl rfl rfl fun d m h => h) ?_
  refine pb_set (d := .int (dot R.wt pt)) 21 (pd_cast (pd_sumL (ns := (List.range R.n).map fun i => R.wt.getD i 0 * pt.getD i 0) LV.dat F.free_sum (pd_cast (pd_lcN (Ms := fun i => mem K R (seenP R S pt)) (Mt := fun i => mem K R (seenP R S pt)) (kp := fun _ => true) (el := fun i => .int (R.wt.getD i 0 * pt.getD i 0)) (own := [("k", 22)]) 22
    (pdi_range1 (j := R.n) F.free_range (pd_var 2) (by omega) (by omega)) nd (blkOk_by (by kernel_rfl)) (fun s H C cl fp => pg_name nd rfl (Or.inl rfl)) (tgt_name 22) (by decide) rfl (fun _ _ h => by cases h) (by omega)
    (fun i hi s H C cl fp => pdts_nil) fun i hi _ s H C cl fp => pd_mul (i := R.wt.getD i 0) (j := pt.getD i 0) ?_ (pd_ixL (ds := R.wt.map D.int) LV.dat (ptAt_ix (k := (i : Int)) (by omega) (by have := ok.wl; omega)) (pd_var 5) (pd_var 22)) (pd_ixT (ptAt_ix (pt := pt) (k := (i : Int)) (by omega) (by omega)) (pd_var 19) (pd_var 22))) (by rw [given_all, List.map_map]; rfl))) (by rw [dot_places _ _ _ ok.wl hl])) nd ?_
  · right
    rw [List.getD_eq_getElem?_getD, List.getElem?_eq_getElem (by omega)]
    exact b01_z h01 _ (List.getElem_mem _)
  refine pb_if (k := !decide (dot R.wt pt = 0)) (Nx1 := fun ρ' m' => ρ' = rho K R (seenS R S pt) (some (.int t)) (some (ptD pt)) (some (.bl (goodF R.bits pt))) (some (.int (dot R.wt pt))) o4 o5 ∧ m' = mem K R (seenS R S pt)) (pdt_neI (pd_var 21) pd_int) (fun hk => ?_) (fun hk => ?_) fun ρ' m' ⟨e1, e2⟩ => ?_
  · have es : seenS R S pt = { seenP R S pt with pw := partW S.pw (pt, sgnF (dot R.wt pt)), pn := partM S.pw (pt, sgnF (dot R.wt pt)) S.pn, sg := S.sg ++ [(pt, sgnF (dot R.wt pt))] } := if_pos hk
    refine pb_expr (pd_mJ 3 (⟨R.q3, S.pw, S.pn, (pt, sgnF (dot R.wt pt)), (by show sgnF _ = 1 ∨ sgnF _ = -1; unfold sgnF; split <;> first | exact .inl rfl | exact .inr rfl), ⟨b01_z h01, by show pt.length ≤ 1000; omega⟩⟩ : PsA) (Ps_ok F) (hr.mono (by decide)) F.cls_Parter F.meth_Parter_see (pd_var 11) (OV.own 3) (pdl_cons (pd_var 19) (pdl_1
      (pd_cast (pd_if (d1 := .int 1) (d2 := .int (0 - 1)) (pdt_gt (pd_var 21) pd_int) (fun _ => pd_int) fun _ => pd_sub pd_int pd_int) (by unfold sgnF; split <;> rfl)))) rfl rfl rfl fun d m h => h) ?_
    refine pb_expr (pd_append 7 (pd_var 15) (d := sD (pt, sgnF (dot R.wt pt))) (ds := S.sg.map sD) (pd_tup (pdl_cons (pd_var 19) (pdl_1 (pd_cast (pd_if (d1 := .int 1) (d2 := .int (0 - 1)) (pdt_gt (pd_var 21) pd_int) (fun _ => pd_int) fun _ => pd_sub pd_int pd_int) (by unfold sgnF; split <;> rfl))))) ⟨_, rfl⟩ rfl (by rw [List.length_map]; exact Nat.lt_of_lt_of_le (m := 100) (by omega) (by decide))) (pb_nil ⟨?_, ?_⟩)
    · rw [es]
      rfl
    · rw [es]
      unfold mem
      simp only [List.map_append, List.map_cons, List.map_nil]
      try rfl
  · have es : seenS R S pt = seenP R S pt := if_neg (by rw [hk]; exact Bool.false_ne_true)
    refine pb_nil ⟨?_, ?_⟩
    · rw [es]
      try rfl
    · rw [es]
      try rfl
  · subst e1 e2
    exact k
end
end H65

set_option Elab.async false
set_option linter.all false
set_option maxRecDepth 100000
set_option maxHeartbeats 4000000
set_option exponentiation.threshold 100000
/-! k65: the law's turn, the experts. -/
namespace H65
open PySem PySem.Spec PyProof.Rows L2 LW
def ansA (R : Rnd) (k : Int) : List Bool := R.rs.map fun r => atR r k
/-- after the experts -/
def expS (R : Rnd) (S : Sta) (k : Int) (rt : Bool) : Sta :=
  { S with hrs := keptF S.hrs k (atR R.hid k), hm := S.hm + (if !decide (hguess S.hrs k = atR R.hid k) then 1 else 0), vm := S.vm + (if !decide (vguess (S.ws.map iN) (ansA R k) = rt) then 1 else 0), ws := mixL S.ws (lossN (ansA R k) rt), mw := mixW S.mw (lossN (ansA R k) rt), lo := addF S.lo (partN S.mw (lossN (ansA R k) rt)), re := (restN S.re (partN S.mw (lossN (ansA R k) rt))) }
theorem range_int {xs : List Nat} {n : Nat} (h : xs.length = n) : (List.range n).map (fun j => D.int (iN (xs.getD j 0))) = (xs.map iN).map D.int := by
  subst h
  rw [List.map_map]
  refine List.ext_getElem (by simp) fun i h1 h2 => ?_
  rw [List.getElem_map, List.getElem_map, List.getElem_range, List.getD_eq_getElem?_getD, List.getElem?_eq_getElem (by simpa using h2)]
  rfl
section
variable {P : Program} {w : World} {K : PySem.W.Frag} {mg : Str → Option Value} {base : Heap} {A : Around} {outer : List Env} {s : Shared} {H : Hp} {E : XK}
theorem turn_exp (F : Fx P w K mg base) (hr : Room 4 (lawA K A s)) {R : Rnd} (ok : ROk R) {S : Sta} {t : Nat} {u : Nat} (so : SOk R t u S) (ht : t < 60) {ot o1 o2 o3 o4 o5 : Option D} {Nx : List (Option D) → Mem → Prop} {Rt : D → Mem → Prop}
    (k : ∀ (c : Dice) (k : Int) (rt : Bool), 0 ≤ k → k < R.n → PB (LX P w K mg base A outer s H E) (Tb K) (rho K R (expS R { S with c := c } k rt) ot o1 o2 o3 (some (.int k)) (some (.bl rt))) (mem K R (expS R { S with c := c } k rt)) (turnBody.drop 15) Nx Rt) :
    PB (LX P w K mg base A outer s H E) (Tb K) (rho K R S ot o1 o2 o3 o4 o5) (mem K R S) (turnBody.drop 8) Nx Rt := by
  have nd := sc_law.nd
  have n0 := ok.n0
  have n1 := ok.n1
  have rn := ok.rn
  have hr1 : Room 1 (lawA K A s) := hr.mono (by decide)
  have kr := rollV_range S.c (m := R.n) (by omega)
  have hlen : R.hid.length = R.n := ok.ru.w _ ok.hm
  have hrl : ∀ r ∈ S.hrs, r.length = R.n := fun r h => ok.ru.w r (so.hr r h)
  have wl : S.ws.length = R.rs.length := so.mi.ll
  have al : (ansA R (rollV S.c R.n)).length = R.rs.length := by unfold ansA; rw [List.length_map]
  refine pb_set (d := .int (rollV S.c R.n)) (M1 := mem K R { S with c := rollC S.c R.n }) 22 (pd_roll F 0 (by omega) (by omega) hr1 (pd_var 1) (pd_var 2)) nd ?_
  have hk2 : ∀ {X : Cx} {T : List Addr} {ρ : List (Option D)} {M M1 : Mem} {a b : Expr} {pos : Pos} {r : Rul}, r.length = R.n → PD X T ρ M a (rD r) M → PD X T ρ M b (.int (rollV S.c R.n)) M → PlainIx b → PD X T ρ M (.Subscript a b pos) (.bl (atR r (rollV S.c R.n))) M := fun hr h1 h2 h3 => pd_ixT (atR_ix kr.1 (by rw [hr]; exact kr.2)) h1 h2 h3
  refine pb_expr (pd_mJ 4 (⟨⟨R.q4, S.hrs, S.hm, rollV S.c R.n, by have := so.hl; omega, fun r h => by rw [hrl r h]; exact kr⟩, atR R.hid (rollV S.c R.n), so.ha.ne _⟩ : HsA) (Hs_ok F) (hr.mono (by decide)) F.cls_Halving F.meth_Halving_see (pd_var 12) (OV.own 4) (pdl_cons (pd_var 22) (pdl_1 (pd_ixT (atR_ix kr.1 (by rw [hlen]; exact kr.2)) (pd_var 7) (pd_var 22)))) rfl rfl rfl fun d m h => h) ?_
  refine pb_setLc 8 (own := [("rule", 26)]) (xs := S.hrs) (kp := fun r => decide (atR r (rollV S.c R.n) = atR R.hid (rollV S.c R.n))) (enc := rD) (us := fun r => [rD r]) (ed := rD) (pdi_list LV.dat (pd_var 8)) nd (blkOk_by (by kernel_rfl)) (fun s H C cl fp => pg_name nd rfl (Or.inl rfl)) (tgt_name 26) (by decide) LV.dat ⟨rfl, fun _ => rfl⟩ (by have := so.hl; omega)
    (fun r h s H C cl fp => pdts_one (pdt_eqB (pd_ixT (atR_ix kr.1 (by rw [hrl r h]; exact kr.2)) (pd_var 26) (pd_var 22)) (pd_ixT (atR_ix kr.1 (by rw [hlen]; exact kr.2)) (pd_var 7) (pd_var 22)))) (fun r h _ s H C cl fp => pd_var 26) ?_
  refine pb_set (d := .bl (decide (rollV (rollC S.c R.n) 2 = 1))) 23 (pd_eqI (pd_roll F 0 (by decide) (by decide) hr1 (pd_var 1) pd_int) pd_int) nd ?_
  have k := k (rollC (rollC S.c R.n) 2) (rollV S.c R.n) (decide (rollV (rollC S.c R.n) 2 = 1)) kr.1 kr.2
  generalize decide (rollV (rollC S.c R.n) 2 = 1) = rt at k ⊢
  have vh : 0 < (S.ws.map iN).length ∧ (S.ws.map iN).length ≤ 1000 ∧ ∀ c ∈ S.ws.map iN, 0 ≤ c ∧ c ≤ 1000 := by
    have := ok.ru.ne
    rw [List.length_map]
    refine ⟨by omega, by omega, fun c hc => ?_⟩
    obtain ⟨z, hz, rfl⟩ := List.mem_map.mp hc
    have := so.mi.lle z hz
    unfold iN
    omega
  have vl : (ansA R (rollV S.c R.n)).length ≤ 1000 := by omega
  have ve : (ansA R (rollV S.c R.n)).length = (S.ws.map iN).length := by rw [List.length_map]; omega
  refine pb_expr (pd_mJ 5 (⟨⟨⟨R.q5, S.ws.map iN, S.vm, vh⟩, ansA R (rollV S.c R.n), vl⟩, rt, ve⟩ : VsA) (Vs_ok F) hr F.cls_Vote F.meth_Vote_see (pd_var 13) (OV.own 5)
    (pdl_cons (pd_cast (pd_lc (own := [("rule", 26)]) (xs := R.rs) (kp := fun _ => true) (enc := rD) (us := fun r => [rD r]) (ed := fun r => .bl (atR r (rollV S.c R.n))) (pdi_list LV.dat (pd_var 6)) nd (blkOk_by (by kernel_rfl)) (fun s H C cl fp => pg_name nd rfl (Or.inl rfl)) (tgt_name 26) (by decide) LV.dat ⟨rfl, fun _ => rfl⟩ (by omega)
      (fun r h s H C cl fp => pdts_nil) fun r h _ s H C cl fp => pd_ixT (atR_ix kr.1 (by rw [ok.ru.w r h]; exact kr.2)) (pd_var 26) (pd_var 22)) (by rw [filter_yes]; show _ = D.lst ((ansA R (rollV S.c R.n)).map D.bl); unfold ansA; rw [List.map_map]; rfl)) (pdl_1 (pd_var 23))) rfl rfl rfl fun d m h => h) ?_
  have ll : (lossN (ansA R (rollV S.c R.n)) rt).length = R.rs.length := by unfold lossN; rw [List.length_map]; exact al
  have mh : (lossN (ansA R (rollV S.c R.n)) rt).length = S.mw.length ∧ S.ws.length = S.mw.length ∧ 0 < S.mw.length ∧ S.mw.length ≤ 1000 := by
    have := so.mi.lw
    have := ok.ru.ne
    omega
  have mw : ∀ z ∈ S.mw, 0 < z ∧ z < 2 ^ 100 := fun z hz => by
    have h1 := so.mi.wpos z hz
    have h2 : 2 ^ t < 2 ^ 100 := Nat.pow_lt_pow_right (by decide) (by omega)
    omega
  have mb : 0 < S.lo.2 ∧ 0 < S.re.2 ∧ S.lo.1 < 2 ^ 4300 ∧ S.lo.2 < 2 ^ 4300 ∧ S.re.1 < 2 ^ 4300 ∧ S.re.2 < 2 ^ 4300 := by
    have up : ∀ {n : Nat}, n < 2 ^ (68 * t + 1) → n < 2 ^ 4300 := fun h => Nat.lt_of_lt_of_le h (Nat.pow_le_pow_right (by decide) (by omega))
    obtain ⟨b1, b2, b3, b4⟩ := so.mi.big
    exact ⟨so.mi.low.1, so.mi.low.2, up b1, up b2, up b3, up b4⟩
  refine pb_expr (pd_mJ 6 (⟨⟨R.q6, S.mw, S.ws, S.lo, S.re⟩, lossN (ansA R (rollV S.c R.n)) rt, mh, lossN_01 _ _, mw, mb⟩ : MsA) (Ms_ok F) hr F.cls_Mix F.meth_Mix_see (pd_var 14) (OV.own 6)
    (pdl_1 (pd_cast (pd_lc (own := [("rule", 26)]) (xs := R.rs) (kp := fun _ => true) (enc := rD) (us := fun r => [rD r]) (ed := fun r => .int (if !decide (atR r (rollV S.c R.n) = rt) then 1 else 0)) (pdi_list LV.dat (pd_var 6)) nd (blkOk_by (by kernel_rfl)) (fun s H C cl fp => pg_name nd rfl (Or.inl rfl)) (tgt_name 26) (by decide) LV.dat ⟨rfl, fun _ => rfl⟩ (by omega)
      (fun r h s H C cl fp => pdts_nil) fun r h _ s H C cl fp => pd_intB F.free_int (pd_neB (pd_ixT (atR_ix kr.1 (by rw [ok.ru.w r h]; exact kr.2)) (pd_var 26) (pd_var 22)) (pd_var 23))) (by
        rw [filter_yes]
        show _ = D.lst (((lossN (ansA R (rollV S.c R.n)) rt).map iN).map D.int)
        unfold lossN ansA
        rw [List.map_map, List.map_map, List.map_map]
        congr 1
        refine List.map_congr_left fun r _ => ?_
        show D.int _ = D.int (iN (if _ then 1 else 0))
        split <;> rfl))) rfl rfl rfl fun d m h => h) ?_
  refine pb_set (d := .lst (((mixL S.ws (lossN (ansA R (rollV S.c R.n)) rt)).map iN).map D.int)) (M1 := mem K R (expS R { S with c := rollC (rollC S.c R.n) 2 } (rollV S.c R.n) rt)) 16 (pd_cast (pd_lcN (n := R.rs.length) (Ms := fun _ => mem K R (expS R { S with c := rollC (rollC S.c R.n) 2 } (rollV S.c R.n) rt)) (Mt := fun _ => mem K R (expS R { S with c := rollC (rollC S.c R.n) 2 } (rollV S.c R.n) rt)) (kp := fun _ => true) (el := fun j => .int (iN ((mixL S.ws (lossN (ansA R (rollV S.c R.n)) rt)).getD j 0))) (own := [("j", 27)]) 27 (pdi_range1 (j := R.rs.length) F.free_range (pd_cast (pd_lenL LV.dat F.free_len (pd_var 6)) (by rw [List.length_map])) (by omega) (by omega)) nd (blkOk_by (by kernel_rfl)) (fun s H C cl fp => pg_name nd rfl (Or.inl rfl)) (tgt_name 27) (by decide) ?_ (fun _ _ h => by cases h) (by omega)
    (fun j hj s H C cl fp => pdts_nil) (fun j hj _ s H C cl fp => ?_)) ?_) nd ?_
  · have e1 := voteW_mix S.ws (ansA R (rollV S.c R.n)) rt
    have e2 : voteM (S.ws.map iN) S.vm (ansA R (rollV S.c R.n)) rt = ((S.vm + (if !decide (vguess (S.ws.map iN) (ansA R (rollV S.c R.n)) = rt) then 1 else 0) : Nat) : Int) := by
      unfold voteM
      split <;> rfl
    show [_, _, _, _, _, some (R.q5, Ob.obj _ (voteF ((mixL S.ws (lossN (ansA R (rollV S.c R.n)) rt)).map iN) ((S.vm + (if !decide (vguess (S.ws.map iN) (ansA R (rollV S.c R.n)) = rt) then 1 else 0) : Nat) : Int))), _, _] = _
    rw [← e1, ← e2]
    rfl
  · have hr0 : R.rs[j]? = some R.rs[j] := List.getElem?_eq_getElem hj
    have hrj : R.rs[j].length = R.n := ok.ru.w _ (List.getElem_mem hj)
    have hlj : (lossN (ansA R (rollV S.c R.n)) rt).getD j 0 = if !decide (atR R.rs[j] (rollV S.c R.n) = rt) then 1 else 0 := by
      unfold lossN ansA
      rw [List.getD_eq_getElem?_getD, List.getElem?_map, List.getElem?_map, hr0]
      rfl
    have hmj : (mixL S.ws (lossN (ansA R (rollV S.c R.n)) rt)).getD j 0 = S.ws.getD j 0 + (if !decide (atR R.rs[j] (rollV S.c R.n) = rt) then 1 else 0) := by
      unfold mixL
      rw [zipN_get _ _ _ _ (by omega) (by omega), hlj]
    have hwj : L2.atI ((S.ws.map iN).map D.int) j = some (.int (iN (S.ws.getD j 0))) := atI_of (by omega) (by
      rw [Int.toNat_natCast, List.getElem?_map, List.getElem?_map, List.getElem?_eq_getElem (by omega), List.getD_eq_getElem?_getD, List.getElem?_eq_getElem (by omega)]
      rfl)
    have hrr : L2.atI (R.rs.map rD) j = some (rD R.rs[j]) := atI_of (by omega) (by
      rw [Int.toNat_natCast, List.getElem?_map, hr0]
      rfl)
    exact pd_cast (pd_add (pd_ixL LV.dat hwj (pd_var 16) (pd_var 27)) (pd_intB F.free_int (pd_neB (pd_ixT (atR_ix (r := R.rs[j]) kr.1 (by rw [hrj]; exact kr.2)) (pd_ixL LV.dat hrr (pd_var 6) (pd_var 27)) (pd_var 22)) (pd_var 23)))) (by
      rw [hmj]
      unfold iN
      split <;> rfl)
  · rw [given_all, range_int (by rw [mixL_len (by omega)]; omega)]
  · exact k
end
end H65

set_option Elab.async false
set_option linter.all false
set_option maxRecDepth 100000
set_option maxHeartbeats 4000000
set_option exponentiation.threshold 100000
/-! k65: the law's turn, whole. -/
namespace H65
open PySem PySem.Spec PyProof.Rows L2 LW
theorem sgnF_s (x : Int) : sgnF x = 1 ∨ sgnF x = -1 := by
  unfold sgnF
  split
  · exact .inl rfl
  · exact .inr rfl
theorem sgnF_pos {x : Int} (h : x ≠ 0) : 0 < sgnF x * x := by
  unfold sgnF
  by_cases hp : 0 < x
  · rw [if_pos (decide_eq_true hp)]; omega
  · rw [if_neg (by rw [decide_eq_false hp]; exact Bool.false_ne_true)]; omega
theorem partM_le (u : List Int) (e : Sig) (m : Int) : partM u e m ≤ m + 1 := by
  unfold partM
  split <;> omega
theorem seen_ok {R : Rnd} (ok : ROk R) {S : Sta} {t : Nat} (so : SOk R t t S) {pt : List Int} (hl : pt.length = R.n) (h01 : bits01 pt) : SOk R t (t + 1) (seenS R S pt) := by
  have n1 := ok.n1
  have pl := so.pl.step ok.ob hl (by omega)
  have wi := so.wi.step ok.pl0 hl
  have tl : (S.tr ++ (if goodF R.bits pt = true then [pt] else [])).length ≤ t + 1 := by
    have := so.tl
    rw [List.length_append]
    split
    · simp only [List.length_cons, List.length_nil]; omega
    · simp only [List.length_nil]; omega
  have tn : ∀ x ∈ S.tr ++ (if goodF R.bits pt = true then [pt] else []), x.length = R.n := fun x hx => by
    rcases List.mem_append.mp hx with hx | hx
    · exact so.tn x hx
    · split at hx
      · rw [List.mem_singleton.mp hx]; exact hl
      · cases hx
  have sl := so.sl
  have pn := so.pn
  by_cases hw : dot R.wt pt = 0
  · have e : seenS R S pt = seenP R S pt := if_neg (by rw [decide_eq_true hw]; exact Bool.false_ne_true)
    rw [e]
    exact ⟨pl, tl, tn, wi, so.pa, by show S.sg.length ≤ t + 1; omega, so.sb, by show S.pn ≤ ((t + 1 : Nat) : Int); omega, so.ha, so.hr, so.hl, so.vo, so.vt, so.mi⟩
  · have e : seenS R S pt = { seenP R S pt with pw := partW S.pw (pt, sgnF (dot R.wt pt)), pn := partM S.pw (pt, sgnF (dot R.wt pt)) S.pn, sg := S.sg ++ [(pt, sgnF (dot R.wt pt))] } := if_pos (by rw [decide_eq_false hw]; rfl)
    rw [e]
    refine ⟨pl, tl, tn, wi, so.pa.step ok.wl hl (sgnF_s _) (sgnF_pos hw), ?_, fun e he => ?_, ?_, so.ha, so.hr, so.hl, so.vo, so.vt, so.mi⟩
    · show (S.sg ++ [_]).length ≤ t + 1
      rw [List.length_append]
      simp only [List.length_cons, List.length_nil]
      omega
    · rcases List.mem_append.mp he with he | he
      · exact so.sb e he
      · rw [List.mem_singleton.mp he]; exact h01
    · have := partM_le S.pw (pt, sgnF (dot R.wt pt)) S.pn
      show partM S.pw (pt, sgnF (dot R.wt pt)) S.pn ≤ ((t + 1 : Nat) : Int)
      omega
theorem withC {R : Rnd} {t u : Nat} {S : Sta} (h : SOk R t u S) (c : Dice) : SOk R t u { S with c := c } := ⟨h.pl, h.tl, h.tn, h.wi, h.pa, h.sl, h.sb, h.pn, h.ha, h.hr, h.hl, h.vo, h.vt, h.mi⟩
theorem exp_ok {R : Rnd} (ok : ROk R) {S : Sta} {t u : Nat} (so : SOk R t u S) (ht : t < 60) (k : Int) (rt : Bool) : SOk R (t + 1) u (expS R S k rt) := by
  have wl : S.ws.length = R.rs.length := so.mi.ll
  have al : (ansA R k).length = R.rs.length := by unfold ansA; rw [List.length_map]
  have ll : (lossN (ansA R k) rt).length = R.rs.length := by unfold lossN; rw [List.length_map]; exact al
  have lle := so.mi.lle
  have vo := so.vo.step (as := ansA R k) (by omega) (fun c hc => by have := lle c hc; omega) rt (vguess (S.ws.map iN) (ansA R k)) (vguess_eq (t := 1000) (by have := ok.ru.ne; omega) fun c hc => by have := lle c hc; omega)
  rw [nextW_mix] at vo
  refine ⟨so.pl, so.tl, so.tn, so.wi, so.pa, so.sl, so.sb, so.pn, so.ha.step k, fun r hr => so.hr r (List.mem_filter.mp hr).1, Nat.le_trans (List.length_filter_le _ _) so.hl, vo, ?_, so.mi.step ll (lossN_01 _ _) ok.ru.ne ok.rn (by omega)⟩
  have := so.vt
  show S.vm + (if _ then 1 else 0) ≤ t + 1
  split <;> omega
section
variable {P : Program} {w : World} {K : PySem.W.Frag} {mg : Str → Option Value} {base : Heap} {A : Around} {outer : List Env} {s : Shared} {H : Hp} {E : XK}
theorem least_eq {ws : List Nat} (h : 0 < ws.length) : lmin (ws.map iN) = ((leastN ws : Nat) : Int) ∧ leastN ws ∈ ws := by
  obtain ⟨z1, z2⟩ := lmin_spec (ns := ws.map iN) (by rw [List.length_map]; exact h)
  obtain ⟨k, hk, ek⟩ := List.mem_map.mp z1
  unfold leastN
  rw [← ek]
  exact ⟨rfl, hk⟩
theorem turn_chk (F : Fx P w K mg base) (hr : Room 4 (lawA K A s)) {R : Rnd} (ok : ROk R) {S : Sta} {t u : Nat} (so : SOk R t u S) (ht : t ≤ 60) (hu : u ≤ 60) {ot o1 o2 o3 o4 o5 : Option D} {Nx : List (Option D) → Mem → Prop} {Rt : D → Mem → Prop}
    (k : Nx (rho K R S ot o1 o2 o3 o4 o5) (mem K R S)) :
    PB (LX P w K mg base A outer s H E) (Tb K) (rho K R S ot o1 o2 o3 o4 o5) (mem K R S) (turnBody.drop 15) Nx Rt := by
  have nd := sc_law.nd
  have n0 := ok.n0
  have n1 := ok.n1
  have rn := ok.rn
  have tl := so.tl
  have pl1 := ok.pl1
  have wl : S.ws.length = R.rs.length := so.mi.ll
  have rne := ok.ru.ne
  obtain ⟨le1, le2⟩ := least_eq (ws := S.ws) (by omega)
  have le3 := so.mi.lle _ le2
  have ibh : 0 < S.ws.length ∧ S.ws.length ≤ 1000 ∧ (∀ z ∈ S.ws, z ≤ 1000) ∧ S.re.1 < 2 ^ 9000 :=
    ⟨by omega, by omega, fun z hz => by have := so.mi.lle z hz; omega, Nat.lt_of_lt_of_le so.mi.big.2.2.1 (Nat.pow_le_pow_right (by decide) (by omega))⟩
  have c1 : (4 : Int) ^ S.vm ≤ (R.rs.length : Int) * 2 ^ leastN S.ws * 3 ^ S.vm := by
    have h := Int.ofNat_le.mpr (so.vo.bound le2 (by omega))
    rw [Int.natCast_mul, Int.natCast_mul, Int.natCast_pow, Int.natCast_pow, Int.natCast_pow] at h
    exact h
  have c2 : (S.re.2 : Int) ≤ (S.ws.length : Int) * 2 ^ leastN S.ws * S.re.1 := by
    have h := Int.ofNat_le.mpr (so.mi.bound le2)
    rw [Int.natCast_mul, Int.natCast_mul, Int.natCast_pow, ← wl] at h
    exact h
  refine pb_ifno (pdt_cast (pdt_or (k := false) (l := false) (pdt_cast (pdt_gt (i := S.pm) (j := (R.n : Int) + 1) (pd_fld (OV.own 1) F.cls_Learner F.noat_Learner_mistakes (pd_var 9)) (pd_cC ((R.n : Nat) : Int) (mm_ok F) (hr.mono (by decide)) F.glo_most_mistakes (pdl_1 (pd_var 2)) rfl)) (decide_eq_false (by have := so.pl.bound; omega)))
    fun _ => pdt_cast (pdt_neE encP_int.lst (x := ((S.tr.filter fun o => !hasF S.b o).map fun _ => (1 : Int))) (y := []) (un_of hr (by decide)) (pd_cast (pd_lc (own := [("one", 25)]) (xs := S.tr) (kp := fun o => !hasF S.b o) (enc := ptD) (us := fun o => [ptD o]) (ed := fun _ => .int 1) (pdi_list LV.dat (pd_var 17)) nd (blkOk_by (by kernel_rfl)) (fun s H C cl fp => pg_name nd rfl (Or.inl rfl)) (tgt_name 25) (by decide) LV.dat ⟨rfl, fun _ => rfl⟩ (by omega)
      (fun o h s H C cl fp => pdts_one (pdt_not (pdt_val (pd_mC (⟨R.n, S.b, o, by rw [so.tn o h]; exact so.pl.ok, by rw [so.tn o h]; omega⟩ : HasA) (Ah_ok F) (hr.mono (by decide)) F.cls_And F.meth_And_has (pd_fld (OV.own 1) F.cls_Learner F.noat_Learner_rule (pd_var 9)) OV.dat (pdl_1 (pd_var 25)) rfl)))) fun o h _ s H C cl fp => pd_int) (by rw [List.map_map]; rfl)) (pd_lst pdl_nil)) (by
        have e : (S.tr.filter fun o => !hasF S.b o) = [] := List.filter_eq_nil_iff.mpr fun o h => by rw [so.pl.tr o h]; exact Bool.false_ne_true
        rw [e]
        rfl)) rfl) ?_
  refine pb_ifno (pdt_cast (pdt_gt (i := S.wi.la + S.wi.sp) (j := ((2 * (R.pl.length * (clog R.n + 1)) + 2 : Nat) : Int)) (pd_add (pd_fld (OV.own 2) F.cls_Winnow F.noat_Winnow_lacks (pd_var 10)) (pd_fld (OV.own 2) F.cls_Winnow F.noat_Winnow_spares (pd_var 10)))
    (pd_cC (⟨R.n, R.pl.length, by omega⟩ : MwA) (mw_ok F) (hr.mono (by decide)) F.glo_most_winnow (pdl_cons (pd_var 2) (pdl_1 (pd_cast (pd_lenL LV.dat F.free_len (pd_var 4)) (by rw [List.length_map])))) rfl)) (decide_eq_false (by have := so.wi.bound n0; omega))) ?_
  refine pb_ifno (pdt_cast (pdt_or (k := false) (l := false) (pdt_cast (pdt_gt (i := S.hm) (j := ((R.rs.length.log2 : Nat) : Int)) (pd_fld (OV.own 4) F.cls_Halving F.noat_Halving_mistakes (pd_var 12)) (pd_cC R.rs.length (mh_ok F) (hr.mono (by decide)) F.glo_most_halvings (pdl_1 (pd_cast (pd_lenL LV.dat F.free_len (pd_var 6)) (by rw [List.length_map]))) rfl)) (decide_eq_false (by have := so.ha.bound; omega)))
    fun _ => pdt_cast (pdt_neE eP.lst (x := S.hrs) (y := S.hrs) (un_of hr (by decide)) (pd_cast (pd_lc (own := [("rule", 26)]) (xs := S.hrs) (kp := fun _ => true) (enc := rD) (us := fun r => [rD r]) (ed := rD) (pdi_list LV.dat (pd_fld (OV.own 4) F.cls_Halving F.noat_Halving_rules (pd_var 12))) nd (blkOk_by (by kernel_rfl)) (fun s H C cl fp => pg_name nd rfl (Or.inl rfl)) (tgt_name 26) (by decide) LV.dat ⟨rfl, fun _ => rfl⟩ (by have := so.hl; omega)
      (fun r h s H C cl fp => pdts_nil) fun r h _ s H C cl fp => pd_tupT F.free_tuple (pd_var 26)) (by rw [filter_yes])) (pd_var 8)) (by simp)) rfl) ?_
  refine pb_ifno (pdt_cast (PW.pt (pdw_or (pdt_not (pdt_val (pd_cC (⟨S.vm, leastN S.ws, R.rs.length, by have := so.vt; omega⟩ : VbA) (vb_ok F) (hr.mono (by decide)) F.glo_vote_bound (pdl_cons (pd_fld (OV.own 5) F.cls_Vote F.noat_Vote_mistakes (pd_var 13)) (pdl_cons (pd_cast (pd_minL (ns := S.ws.map iN) LV.dat (by rw [List.length_map]; omega) F.free_min (pd_var 16)) (by rw [le1])) (pdl_1 (pd_cast (pd_lenL LV.dat F.free_len (pd_var 6)) (by rw [List.length_map]))))) rfl)))
    fun _ => pdw_or (pdt_not (pdt_val (pd_cJ 6 (⟨⟨R.q6, S.mw, S.ws, S.lo, S.re⟩, ibh⟩ : IbA) (ib_ok F) (hr.mono (by decide)) F.glo_in_bounds (pdl_1 (pd_var 14)) rfl rfl rfl fun d m h => h)))
    fun _ => pdw_or1 (pdt_neE encP_int.lst (x := S.ws.map iN) (y := S.ws.map iN) (un_of hr (by decide)) (pd_fld (OV.own 6) F.cls_Mix F.noat_Mix_losses (pd_var 14)) (pd_var 16)))) ?_) (pb_nil k)
  rw [decide_eq_true c1]
  show (false || (!decide ((S.re.2 : Int) ≤ (S.ws.length : Int) * 2 ^ leastN S.ws * S.re.1) || !decide (S.ws.map iN = S.ws.map iN))) = false
  rw [decide_eq_true c2, decide_eq_true rfl]
  rfl
/-- a turn -/
theorem turn_ok (F : Fx P w K mg base) (hr : Room 4 (lawA K A s)) {R : Rnd} (ok : ROk R) {S : Sta} {t : Nat} (so : SOk R t t S) (ht : t < 60) {o1 o2 o3 o4 o5 : Option D} {Rt : D → Mem → Prop} :
    PB (LX P w K mg base A outer s H E) (Tb K) (rho K R S (some (.int t)) o1 o2 o3 o4 o5) (mem K R S) turnBody (fun ρ' m' => ∃ S' o0 o1 o2 o3 o4 o5, SOk R (t + 1) (t + 1) S' ∧ ρ' = rho K R S' o0 o1 o2 o3 o4 o5 ∧ m' = mem K R S') Rt := by
  refine turn_point F hr ok fun c pt hl h01 => ?_
  refine turn_see (S := { S with c := c }) F hr ok (withC so c) ht hl h01 ?_
  refine turn_exp F hr ok (u := t + 1) (seen_ok ok (withC so c) hl h01) ht fun c' k rt h0 h1 => ?_
  have fin := exp_ok ok (withC (seen_ok ok (withC so c) hl h01) c') ht k rt
  exact turn_chk F hr ok fin (by omega) (by omega) ⟨_, _, _, _, _, _, _, fin, rfl, rfl⟩
end
end H65

set_option Elab.async false
set_option linter.all false
set_option maxRecDepth 100000
set_option maxHeartbeats 4000000
/-! k65: the law's round. -/
namespace H65
open PySem PySem.Spec PyProof.Rows L2 LW
def sizeN (c : Dice) : Nat := (1 + rollV (rollC c 2) (if rollV c 2 = 0 then 5 else 12)).toNat
def sizeC (c : Dice) : Dice := rollC (rollC c 2) (if rollV c 2 = 0 then 5 else 12)
def bitC (c : Dice) : Nat → Dice
  | 0 => c
  | i + 1 => if decide (rollV (bitC c i) 2 = 0) = true then rollC (rollC (bitC c i) 2) 2 else rollC (bitC c i) 2
theorem bitC_no {c : Dice} {i : Nat} (h : decide (rollV (bitC c i) 2 = 0) = false) : bitC c (i + 1) = rollC (bitC c i) 2 := if_neg (by rw [h]; exact Bool.false_ne_true)
theorem bitC_yes {c : Dice} {i : Nat} (h : decide (rollV (bitC c i) 2 = 0) = true) : bitC c (i + 1) = rollC (rollC (bitC c i) 2) 2 := if_pos h
def bitL (c : Dice) (n : Nat) : Bits := ((List.range n).filter fun i => decide (rollV (bitC c i) 2 = 0)).map fun (i : Nat) => ((i : Int), rollV (rollC (bitC c i) 2) 2)
theorem bitL_ok (c : Dice) (n : Nat) : BitsOk n (bitL c n) ∧ (bitL c n).length ≤ n ∧ ∀ p ∈ bitL c n, p.2 = 0 ∨ p.2 = 1 := by
  refine ⟨⟨?_, fun p hp => ?_⟩, ?_, fun p hp => ?_⟩
  · unfold bitL
    rw [List.map_map]
    exact List.pairwise_map.mpr (((List.nodup_range (n := n)).sublist List.filter_sublist).imp fun {a b} hne e => hne (by
      have e : ((a : Nat) : Int) = ((b : Nat) : Int) := e
      omega))
  · obtain ⟨i, hi, rfl⟩ := List.mem_map.mp hp
    have := List.mem_range.mp (List.mem_filter.mp hi).1
    show (0 : Int) ≤ (i : Nat) ∧ ((i : Nat) : Int) < n
    omega
  · unfold bitL
    rw [List.length_map]
    exact Nat.le_trans (List.length_filter_le _ _) (by rw [List.length_range]; exact Nat.le_refl _)
  · obtain ⟨i, hi, rfl⟩ := List.mem_map.mp hp
    have := rollV_range (rollC (bitC c i) 2) (m := 2) (by decide)
    show rollV (rollC (bitC c i) 2) 2 = 0 ∨ rollV (rollC (bitC c i) 2) 2 = 1
    omega
def plaN (c : Dice) : Nat := (1 + rollV c 3).toNat
def plaL (c : Dice) (n : Nat) : List Int := srtE D.int (ddp [] (rollL (rollC c 3) n (plaN c)))
theorem plaL_ok (c : Dice) {n : Nat} (hn : 0 < n) : (∀ p ∈ plaL c n, 0 ≤ p ∧ p < n) ∧ (plaL c n).length ≤ 3 := by
  constructor
  · intro p hp
    have h := (srtE_perm D.int _).mem_iff.mp hp
    rcases (ddp_mem _ _ p).mp h with h | h
    · cases h
    · exact rollL_range (rollC c 3) (m := n) (by omega) _ p h
  · have h := (srtE_perm D.int (ddp [] (rollL (rollC c 3) n (plaN c)))).length_eq
    have h2 := ddp_len (rollL (rollC c 3) n (plaN c)) []
    have h3 := rollV_range c (m := 3) (by decide)
    rw [rollL_len] at h2
    simp only [List.length_nil] at h2
    unfold plaL
    rw [h]
    have : plaN c = (1 + rollV c 3).toNat := rfl
    omega
def weiL (c : Dice) (n : Nat) : List Int := (rollL c 201 n).map fun x => x - 100
theorem ansR_ok (c : Dice) {n : Nat} {m : Int} (h : 0 < n ∧ n ≤ 1000 ∧ 0 < m ∧ m ≤ 60) : RuOk n (ansR c n m) ∧ (ansR c n m).length ≤ 60 ∧ (ansR c n m).Nodup ∧ (ansR c n m).Pairwise (fun a b => leE rD a b = true) := by
  have pm := srtE_perm rD (ddp [] ((List.range (ansN c m)).map fun i => bitR (ansC (rollC c m) n i) n))
  have nd := ddp_nodup ((List.range (ansN c m)).map fun i => bitR (ansC (rollC c m) n i) n) [] List.nodup_nil
  have le := ddp_len ((List.range (ansN c m)).map fun i => bitR (ansC (rollC c m) n i) n) []
  rw [List.length_map, List.length_range] at le
  simp only [List.length_nil] at le
  have rg := rollV_range c (m := m) (by omega)
  have a1 : ansN c m = (1 + rollV c m).toNat := rfl
  have ll : (ansR c n m).length ≤ 60 := by
    unfold ansR
    rw [pm.length_eq]
    omega
  refine ⟨⟨?_, by omega, fun r hr => ?_, h.1, h.2.1⟩, ll, pm.nodup_iff.mpr nd, srtE_sorted _ _⟩
  · refine List.length_pos_of_mem (a := bitR (ansC (rollC c m) n 0) n) (pm.mem_iff.mpr ((ddp_mem _ _ _).mpr (.inr (List.mem_map.mpr ⟨0, List.mem_range.mpr (by omega), rfl⟩))))
  · rcases (ddp_mem _ _ r).mp (pm.mem_iff.mp hr) with q | q
    · cases q
    · obtain ⟨i, _, rfl⟩ := List.mem_map.mp q
      exact bitR_len _ _
section
variable {P : Program} {w : World} {K : PySem.W.Frag} {mg : Str → Option Value} {base : Heap} {A : Around} {outer : List Env} {s : Shared} {H : Hp} {E : XK}
abbrev nones (n : Nat) : List (Option D) := List.replicate n none
theorem setup1 (F : Fx P w K mg base) (hr : Room 4 (lawA K A s)) {a p : Addr} {c : Dice} {Nx : List (Option D) → Mem → Prop} {Rt : D → Mem → Prop}
    (k : ∀ (c' : Dice) (n : Nat) (bits : Bits) (pl wt : List Int) (rs : List Rul), 0 < n → n ≤ 12 → BitsOk n bits → bits.length ≤ 1000 → (∀ p ∈ bits, p.2 = 0 ∨ p.2 = 1) → (∀ p ∈ pl, 0 ≤ p ∧ p < n) → pl.length ≤ 1000 → wt.length = n → (∀ x ∈ wt, -100 ≤ x ∧ x ≤ 100) → RuOk n rs → rs.length ≤ 60 → rs.Nodup → rs.Pairwise (fun a b => leE rD a b = true) →
      PB (LX P w K mg base A outer s H E) (Tb K) [some (.ref a), some (.ref p), some (.int n), some (.lst (bits.map pairD)), some (.lst (pl.map D.int)), some (.lst (wt.map D.int)), some (.lst (rs.map rD)), none, none, none, none, none, none, none, none, none, none, none, none, none, none, none, none, none, none, none, none, none] [some (p, .lst (diceD c'))] (roundBody.drop 5) Nx Rt) :
    PB (LX P w K mg base A outer s H E) (Tb K) [some (.ref a), some (.ref p), none, none, none, none, none, none, none, none, none, none, none, none, none, none, none, none, none, none, none, none, none, none, none, none, none, none] [some (p, .lst (diceD c))] roundBody Nx Rt := by
  have nd := sc_law.nd
  have hr1 : Room 1 (lawA K A s) := hr.mono (by decide)
  have r2 := rollV_range c (m := 2) (by decide)
  have hm : 0 < (if rollV c 2 = 0 then 5 else 12 : Int) ∧ (if rollV c 2 = 0 then 5 else 12 : Int) ≤ 12 := by split <;> decide
  have r3 := rollV_range (rollC c 2) hm.1
  have hn : ((sizeN c : Nat) : Int) = 1 + rollV (rollC c 2) (if rollV c 2 = 0 then 5 else 12) := by unfold sizeN; omega
  refine pb_set (d := .int (sizeN c)) (M1 := [some (p, .lst (diceD (sizeC c)))]) 2 (pd_cast (pd_add pd_int (pd_roll F 0 hm.1 (by omega) hr1 (pd_var 1) (pd_ixL (ds := [.int 5, .int 12]) (i := rollV c 2) LV.dat ?_ (pd_lst (pdl_cons pd_int (pdl_1 pd_int))) (pd_roll F 0 (by decide) (by decide) hr1 (pd_var 1) pd_int)))) (by rw [hn])) nd ?_
  · rcases (by omega : rollV c 2 = 0 ∨ rollV c 2 = 1) with e | e <;> rw [e] <;> rfl
  have n0 : 0 < sizeN c := by omega
  have n1 : sizeN c ≤ 12 := by omega
  generalize sizeN c = n at *
  generalize sizeC c = c1
  obtain ⟨b1, b2, b3⟩ := bitL_ok c1 n
  refine pb_set (d := .lst ((bitL c1 n).map pairD)) (M1 := [some (p, .lst (diceD (bitC c1 n)))]) 3 (pd_cast (pd_lcN (n := n) (Ms := fun i => [some (p, .lst (diceD (bitC c1 i)))]) (Mt := fun i => [some (p, .lst (diceD (rollC (bitC c1 i) 2)))]) (kp := fun i => decide (rollV (bitC c1 i) 2 = 0)) (el := fun (i : Nat) => .tup [.int i, .int (rollV (rollC (bitC c1 i) 2) 2)]) (own := [("k", 22)]) 22
    (pdi_range1 (j := n) F.free_range (pd_var 2) (by omega) (by omega)) nd (blkOk_by (by kernel_rfl)) (fun s H C cl fp => pg_name nd rfl (Or.inl rfl)) (tgt_name 22) (by decide) rfl (fun i _ h => by
      show _ = [some (p, Ob.lst (diceD (bitC c1 (i + 1))))]
      rw [bitC_no h]) (by omega)
    (fun i hi s H C cl fp => pdts_one (pdt_eqI (pd_roll F 0 (by decide) (by decide) hr1 (pd_var 1) pd_int) pd_int)) fun i hi hk s H C cl fp => ?_) ?_) nd ?_
  · show PD _ _ _ _ _ _ [some (p, Ob.lst (diceD (bitC c1 (i + 1))))]
    rw [bitC_yes hk]
    exact pd_tup (pdl_cons (pd_var 22) (pdl_1 (pd_roll F 0 (by decide) (by decide) hr1 (pd_var 1) pd_int)))
  · unfold given bitL
    rw [List.map_map]
    rfl
  generalize bitC c1 n = c2
  generalize bitL c1 n = bits at *
  obtain ⟨p1, p2⟩ := plaL_ok c2 n0
  have r3 := rollV_range c2 (m := 3) (by decide)
  have hz : ((plaN c2 : Nat) : Int) = 1 + rollV c2 3 := by unfold plaN; omega
  refine pb_set (d := .lst ((plaL c2 n).map D.int)) (M1 := [some (p, .lst (diceD (rollsC (rollC c2 3) n (plaN c2))))]) 4 (pd_cast (pd_sortDic (kvs := (ddp [] (rollL (rollC c2 3) n (plaN c2))).map (oneD D.int)) DV.dat ?_ (un_of hr (by decide)) F.free_sorted (pd_cast (pd_dictI (ps := (rollL (rollC c2 3) n (plaN c2)).map fun x => (x, .int 1)) (da := .lst ((rollL (rollC c2 3) n (plaN c2)).map fun x => .tup [.int x, .int 1])) ?_ ?_ F.free_dict
    (pd_cast (pd_lcN (n := plaN c2) (Ms := fun i => [some (p, .lst (diceD (rollsC (rollC c2 3) n i)))]) (Mt := fun i => [some (p, .lst (diceD (rollsC (rollC c2 3) n i)))]) (kp := fun _ => true) (el := fun i => .tup [.int (rollV (rollsC (rollC c2 3) n i) n), .int 1]) (own := [("k", 22)]) 22
      (pdi_range1 (j := 1 + rollV c2 3) F.free_range (pd_add pd_int (pd_roll F 0 (by decide) (by decide) hr1 (pd_var 1) pd_int)) (by omega) (by omega)) nd (blkOk_by (by kernel_rfl)) (fun s H C cl fp => pg_name nd rfl (Or.inl rfl)) (tgt_name 22) (by decide) rfl (fun _ _ h => by cases h) (by omega)
      (fun i hi s H C cl fp => pdts_nil) fun i hi _ s H C cl fp => pd_tup (pdl_cons (pd_roll F 0 (by omega) (by omega) hr1 (pd_var 1) (pd_var 2)) (pdl_1 pd_int))) (by rw [given_all]; unfold rollL; rw [List.map_map]; rfl))) ?_)) ?_) nd ?_
  · rw [keys_one]
    exact encP_int.srt (by decide) (Nat.le_trans (ddp_len _ _) (by rw [rollL_len]; simp only [List.length_nil]; exact Nat.le_trans (m := 100) (by omega) (by decide))) (.inr fun a _ => ⟨(by simp), fun ys h => (by cases h)⟩)
  · rw [List.map_map, List.map_map]
    exact LV.dat
  · rw [List.length_map, rollL_len]
    exact Nat.le_trans (m := 100) (by omega) (by decide)
  · have e : ((rollL (rollC c2 3) n (plaN c2)).map fun x => (x, D.int 1)).map eI = (rollL (rollC c2 3) n (plaN c2)).map (oneD D.int) := by
      rw [List.map_map]
      rfl
    rw [e, dmrg_ones encK_int]
  · rw [keys_one, sortD_enc]
    rfl
  generalize rollsC (rollC c2 3) n (plaN c2) = c3
  generalize plaL c2 n = pl at *
  refine pb_set (d := .lst ((weiL c3 n).map D.int)) (M1 := [some (p, .lst (diceD (rollsC c3 201 n)))]) 5 (pd_cast (pd_lcN (n := n) (Ms := fun i => [some (p, .lst (diceD (rollsC c3 201 i)))]) (Mt := fun i => [some (p, .lst (diceD (rollsC c3 201 i)))]) (kp := fun _ => true) (el := fun i => .int (rollV (rollsC c3 201 i) 201 - 100)) (own := [("k", 22)]) 22
    (pdi_range1 (j := n) F.free_range (pd_var 2) (by omega) (by omega)) nd (blkOk_by (by kernel_rfl)) (fun s H C cl fp => pg_name nd rfl (Or.inl rfl)) (tgt_name 22) (by decide) rfl (fun _ _ h => by cases h) (by omega)
    (fun i hi s H C cl fp => pdts_nil) fun i hi _ s H C cl fp => pd_sub (pd_roll F 0 (by decide) (by decide) hr1 (pd_var 1) pd_int) pd_int) (by rw [given_all]; unfold weiL rollL; rw [List.map_map, List.map_map]; rfl)) nd ?_
  have wl : (weiL c3 n).length = n := by unfold weiL; rw [List.length_map, rollL_len]
  have wb : ∀ x ∈ weiL c3 n, -100 ≤ x ∧ x ≤ 100 := fun x hx => by
    obtain ⟨y, hy, rfl⟩ := List.mem_map.mp hx
    have := rollL_range c3 (m := 201) (by decide) n y hy
    omega
  generalize rollsC c3 201 n = c4
  generalize weiL c3 n = wt at *
  obtain ⟨u1, u2, u3, u4⟩ := ansR_ok c4 (n := n) (m := 20) (by omega)
  refine pb_set (d := .lst ((ansR c4 n 20).map rD)) (M1 := [some (p, .lst (diceD (ansE c4 n 20)))]) 6 (pd_cJ 0 (⟨p, c4, n, 20, by omega⟩ : AnA) (an_ok F) (hr.mono (by decide)) F.glo_law_answers (pdl_cons (pd_var 1) (pdl_cons (pd_var 2) (pdl_1 pd_int))) rfl rfl rfl fun d m h => h) nd ?_
  exact k _ n bits pl wt _ n0 n1 b1 (by omega) b3 p1 (by omega) wl wb u1 u2 u3 u4
end
end H65

set_option Elab.async false
set_option linter.all false
set_option maxRecDepth 100000
set_option maxHeartbeats 4000000
/-! k65: the law's round, from the learners on. -/
namespace H65
open PySem PySem.Spec PyProof.Rows L2 LW
section
variable {P : Program} {w : World} {K : PySem.W.Frag} {mg : Str → Option Value} {base : Heap} {A : Around} {outer : List Env} {s : Shared} {H : Hp} {E : XK}
def S0 (c : Dice) (n : Nat) (rs : List Rul) : Sta := ⟨c, none, 0, ⟨n, List.replicate n 1, 0, 0⟩, List.replicate n 0, 0, rs, 0, 0, List.replicate rs.length 0, List.replicate rs.length 1, (0, 1), (1, 1), [], []⟩
theorem rep_iN (n v : Nat) : (List.replicate n v).map iN = List.replicate n (iN v) := List.map_replicate
theorem setup2 (F : Fx P w K mg base) (hr : Room 4 (lawA K A s)) {a p : Addr} {c : Dice} {n : Nat} {bits : Bits} {pl wt : List Int} {rs : List Rul} (n0 : 0 < n) (n1 : n ≤ 12) (ru : RuOk n rs) (rn : rs.length ≤ 60) (u3 : rs.Nodup) (u4 : rs.Pairwise (fun a b => leE rD a b = true)) {Nx : List (Option D) → Mem → Prop} {Rt : D → Mem → Prop}
    (k : ∀ (c' : Dice) (hid : Rul) (q1 q2 q3 q4 q5 q6 q7 : Addr), hid ∈ rs → PB (LX P w K mg base A outer s H E) (Tb K) (rho K ⟨a, p, q1, q2, q3, q4, q5, q6, q7, n, bits, pl, wt, rs, hid⟩ (S0 c' n rs) none none none none none none) (mem K ⟨a, p, q1, q2, q3, q4, q5, q6, q7, n, bits, pl, wt, rs, hid⟩ (S0 c' n rs)) (roundBody.drop 9) Nx Rt) :
    PB (LX P w K mg base A outer s H E) (Tb K) [some (.ref a), some (.ref p), some (.int n), some (.lst (bits.map pairD)), some (.lst (pl.map D.int)), some (.lst (wt.map D.int)), some (.lst (rs.map rD)), none, none, none, none, none, none, none, none, none, none, none, none, none, none, none, none, none, none, none, none, none] [some (p, .lst (diceD c))] (roundBody.drop 5) Nx Rt := by
  have nd := sc_law.nd
  have hr1 : Room 1 (lawA K A s) := hr.mono (by decide)
  have hne := ru.ne
  have rr := rollV_range c (m := rs.length) (by omega)
  have hlt : (rollV c rs.length).toNat < rs.length := by omega
  have hh : L2.atI (rs.map rD) (rollV c rs.length) = some (rD rs[(rollV c rs.length).toNat]) := atI_of rr.1 (by rw [List.getElem?_map, List.getElem?_eq_getElem hlt]; rfl)
  refine pb_asgG (d := .tup [rD rs[(rollV c rs.length).toNat], .lst (rs.map rD)]) (M1 := [some (p, .lst (diceD (rollC c rs.length)))]) (pd_tup (pdl_cons (pd_ixL LV.dat hh (pd_var 6) (pd_roll F 0 (by omega) (by omega) hr1 (pd_var 1) (pd_cast (pd_lenL LV.dat F.free_len (pd_var 6)) (by rw [List.length_map])))) (pdl_1 (pd_var 6))))
    (pg_tup rfl (pgs_cons (pg_name nd (i := 7) rfl (by first | exact Or.inl rfl | exact Or.inr rfl)) (pgs_cons (pg_name nd (i := 8) rfl (by first | exact Or.inl rfl | exact Or.inr rfl)) pgs_nil))) (tgt_tup [7, 8]) rfl ?_
  have k := fun c' q1 q2 q3 q4 q5 q6 q7 => k c' rs[(rollV c rs.length).toNat] q1 q2 q3 q4 q5 q6 q7 (List.getElem_mem hlt)
  generalize rs[(rollV c rs.length).toNat] = hid at k ⊢
  generalize rollC c rs.length = c1
  refine pb_asgGR (R := fun d m => ∃ ds, d = .tup ds ∧ ∃ q1 q2 q3, ds = [.ref q1, .ref q2, .ref q3] ∧ m = [some (p, .lst (diceD c1)), some (q1, .obj (He.ga K "Learner") (learnF (He.ga K "And") n none 0)), some (q2, .obj (He.ga K "Winnow") (winF ⟨n, List.replicate n 1, 0, 0⟩)), some (q3, .obj (He.ga K "Parter") (partF (List.replicate n 0) 0))])
    (pdr_tup (pdlr_cons (pdr_makeC (fun q => (⟨q, n⟩ : LiA)) (Li_ok F) F.mkr_Learner hr F.glo_Learner (pdl_1 (pd_var 2)) (fun q => rfl) (fun q => rfl) (fun q d m h => h.1)) ?_) ?_) (pg_tup rfl (pgs_cons (pg_name nd (i := 9) rfl (by first | exact Or.inl rfl | exact Or.inr rfl)) (pgs_cons (pg_name nd (i := 10) rfl (by first | exact Or.inl rfl | exact Or.inr rfl)) (pgs_cons (pg_name nd (i := 11) rfl (by first | exact Or.inl rfl | exact Or.inr rfl)) pgs_nil)))) (tgt_tup [9, 10, 11]) ?_
  · rintro d m ⟨q1, m', rfl, rfl, _, rfl⟩
    refine pdlr_cons (pdr_makeC (fun q => (⟨q, n, by omega⟩ : NewA)) (Wi_ok F) F.mkr_Winnow (hr.mono (by decide)) F.glo_Winnow (pdl_1 (pd_var 2)) (fun q => rfl) (fun q => rfl) (fun q d m h => h.1)) ?_
    rintro d m ⟨q2, m', rfl, rfl, _, rfl⟩
    refine pdlr_cons (pdr_makeC (fun q => (⟨q, n, by omega⟩ : NewA)) (Pi_ok F) F.mkr_Parter (hr.mono (by decide)) F.glo_Parter (pdl_1 (pd_var 2)) (fun q => rfl) (fun q => rfl) (fun q d m h => h.1)) ?_
    rintro d m ⟨q3, m', rfl, rfl, _, rfl⟩
    exact pdlr_nil ⟨q1, q2, q3, rfl, rfl⟩
  · rintro ds m ⟨q1, q2, q3, rfl, _⟩
    exact Nat.le_of_ble_eq_true rfl
  rintro d m ⟨ds, rfl, q1, q2, q3, rfl, rfl⟩
  refine ⟨_, rfl, ?_⟩
  refine pb_par3R (RL := fun ds m => ∃ q4 q5 q6, ds = [.ref q4, .ref q5, .ref q6] ∧ m = [some (p, .lst (diceD c1)), some (q1, .obj (He.ga K "Learner") (learnF (He.ga K "And") n none 0)), some (q2, .obj (He.ga K "Winnow") (winF ⟨n, List.replicate n 1, 0, 0⟩)), some (q3, .obj (He.ga K "Parter") (partF (List.replicate n 0) 0)),
      some (q4, .obj (He.ga K "Halving") (halfF rs 0)), some (q5, .obj (He.ga K "Vote") (voteF (List.replicate rs.length 0) 0)), some (q6, .obj (He.ga K "Mix") (mixF (List.replicate rs.length 1) (List.replicate rs.length 0) (0, 1) (1, 1)))]) 12 13 14
    (pdlr_cons (pdr_makeC (fun q => (⟨⟨n, rs, ru, u3, u4⟩, q⟩ : HiA)) (Hi_ok F) F.mkr_Halving hr F.glo_Halving (pdl_1 (pd_var 6)) (fun q => rfl) (fun q => rfl) (fun q d m h => h.1)) ?_) nd ?_ ?_
  · rintro d m ⟨q4, m', rfl, rfl, _, rfl⟩
    refine pdlr_cons (pdr_makeC (fun q => (⟨q, rs.length, by omega⟩ : NewA)) (Vi_ok F) F.mkr_Vote (hr.mono (by decide)) F.glo_Vote (pdl_1 (pd_cast (pd_lenL LV.dat F.free_len (pd_var 6)) (by rw [List.length_map]))) (fun q => rfl) (fun q => rfl) (fun q d m h => h.1)) ?_
    rintro d m ⟨q5, m', rfl, rfl, _, rfl⟩
    refine pdlr_cons (pdr_makeC (fun q => (⟨q, rs.length, by omega⟩ : NewA)) (Mi_ok F) F.mkr_Mix (hr.mono (by decide)) F.glo_Mix (pdl_1 (pd_cast (pd_lenL LV.dat F.free_len (pd_var 6)) (by rw [List.length_map]))) (fun q => rfl) (fun q => rfl) (fun q d m h => h.1)) ?_
    rintro d m ⟨q6, m', rfl, rfl, _, rfl⟩
    exact pdlr_nil ⟨q4, q5, q6, rfl, rfl⟩
  · rintro d1 d2 d3 m ⟨q4, q5, q6, e, rfl⟩
    cases e
    refine pb_asgGR (R := fun d m => ∃ ds, d = .tup ds ∧ ∃ q7, ds = [.ref q7, .lst ((List.replicate rs.length [D.int 0]).flatten), .lst []] ∧ m = [some (p, .lst (diceD c1)), some (q1, .obj (He.ga K "Learner") (learnF (He.ga K "And") n none 0)), some (q2, .obj (He.ga K "Winnow") (winF ⟨n, List.replicate n 1, 0, 0⟩)), some (q3, .obj (He.ga K "Parter") (partF (List.replicate n 0) 0)),
        some (q4, .obj (He.ga K "Halving") (halfF rs 0)), some (q5, .obj (He.ga K "Vote") (voteF (List.replicate rs.length 0) 0)), some (q6, .obj (He.ga K "Mix") (mixF (List.replicate rs.length 1) (List.replicate rs.length 0) (0, 1) (1, 1))), some (q7, .lst [])])
      (pdr_tup (pdlr_cons (pdr_lst pdl_nil) ?_) ?_) (pg_tup rfl (pgs_cons (pg_name nd (i := 15) rfl (by first | exact Or.inl rfl | exact Or.inr rfl)) (pgs_cons (pg_name nd (i := 16) rfl (by first | exact Or.inl rfl | exact Or.inr rfl)) (pgs_cons (pg_name nd (i := 17) rfl (by first | exact Or.inl rfl | exact Or.inr rfl)) pgs_nil)))) (tgt_tup [15, 16, 17]) ?_
    · rintro d m ⟨q7, rfl, rfl⟩
      refine pdlr_imp (pdlr_of (pdl_cons (pd_repL (k := rs.length) LV.dat (by omega) (by omega) (by show 1 * ((rs.length : Nat) : Int).toNat ≤ 16777216; omega) (pd_lst (pdl_1 pd_int)) (pd_cast (pd_lenL LV.dat F.free_len (pd_var 6)) (by rw [List.length_map]))) (pdl_1 (pd_lst pdl_nil)))) ?_
      rintro ds m ⟨rfl, rfl⟩
      exact ⟨q7, rfl, rfl⟩
    · rintro ds m ⟨q7, rfl, _⟩
      exact Nat.le_of_ble_eq_true rfl
    · rintro d m ⟨ds, rfl, q7, rfl, rfl⟩
      refine ⟨_, rfl, ?_⟩
      have k := k c1 q1 q2 q3 q4 q5 q6 q7
      rw [flat_rep]
      unfold S0 rho mem at k
      simp only [rep_iN, List.map_replicate] at k
      exact k
  · rintro ds m ⟨q4, q5, q6, rfl, _⟩
    rfl
end
end H65

set_option Elab.async false
set_option linter.all false
set_option maxRecDepth 100000
set_option maxHeartbeats 4000000
/-! k65: the law's round, the turns and the end. -/
namespace H65
open PySem PySem.Spec PyProof.Rows L2 LW
theorem S0_ok {R : Rnd} (ok : ROk R) (c : Dice) : SOk R 0 0 (S0 c R.n R.rs) := by
  refine ⟨PlI.zero _ _, Nat.le_refl _, fun x h => (by cases h), WinI.zero ok.pl0, PaI.zero _ _, Nat.le_refl _, fun e h => (by cases h), Int.le_refl _, ⟨ok.hm, 0, rfl, ?_⟩, fun r h => h, ok.rn, VoI.zero _ _, Nat.le_refl _, MiI.zero _⟩
  show 2 ^ 0 * R.rs.length ≤ R.rs.length
  omega
section
variable {P : Program} {w : World} {K : PySem.W.Frag} {mg : Str → Option Value} {base : Heap} {A : Around} {outer : List Env} {s : Shared} {H : Hp} {E : XK}
theorem round_end (F : Fx P w K mg base) (hr : Room 4 (lawA K A s)) {R : Rnd} (ok : ROk R) {S : Sta} {t : Nat} (so : SOk R t t S) (ht : t ≤ 60) {ot o1 o2 o3 o4 o5 : Option D} {Nx : List (Option D) → Mem → Prop} {Rt : D → Mem → Prop}
    (k : ∀ ρ m, Nx ρ m) : PB (LX P w K mg base A outer s H E) (Tb K) (rho K R S ot o1 o2 o3 o4 o5) (mem K R S) (roundBody.drop 10) Nx Rt := by
  have n1 := ok.n1
  have sl := so.sl
  have pn := so.pn
  have pn0 := so.pa.m0
  have wz : ∀ b ∈ R.wt, -(2 ^ 64) < b ∧ b < 2 ^ 64 := fun b hb => by
    have := ok.wb b hb
    omega
  have sg : SgOk R.n S.sg := ⟨by omega, fun e h => (so.pa.sl e h).1, fun e h => (so.pa.sl e h).2.1, fun e h => b01_z (so.sb e h)⟩
  have he : ∀ x ∈ edges S.sg R.wt, -(2 ^ 64) < x ∧ x < 2 ^ 64 := fun x hx => by
    obtain ⟨e, h, rfl⟩ := List.mem_map.mp hx
    have b := dot_bits (A := 100) (by decide) R.wt e.1 (fun a ha => by have := ok.wb a ha; omega) (so.sb e h)
    rw [(so.pa.sl e h).1] at b
    rcases (so.pa.sl e h).2.1 with q | q <;> rw [q] <;> omega
  have hg : -(2 ^ 64) < great S.sg ∧ great S.sg < 2 ^ 64 := by
    have h1 := great_nn S.sg
    have h2 := great_le (sg := S.sg) (B := 12) (by decide) fun e h => by
      have b := dot_bits (A := 1) (by decide) e.1 e.1 (fun a ha => by rcases so.sb e h a ha with q | q <;> omega) (so.sb e h)
      rw [(so.pa.sl e h).1] at b
      omega
    omega
  obtain ⟨fi, Fi, bi, _⟩ := Ai_ok (P := P) (base := base) (T := Tb K) F
  refine pb_ifno (pdt_cast (pdt_or (k := false) (l := false) (pdt_cast (pdt_not (pdt_val (pd_cJ 7 (⟨⟨⟨R.q7, R.n, S.sg, sg⟩, R.wt⟩, S.pn, by omega, wz, he, hg⟩ : SbA) (sb_ok F) hr F.glo_side_bound (pdl_cons (pd_fld (OV.own 3) F.cls_Parter F.noat_Parter_mistakes (pd_var 11)) (pdl_cons (pd_var 15) (pdl_1 (pd_var 5)))) rfl rfl rfl fun d m h => h))) (by rw [so.pa.bound ok.wl]; rfl))
    fun _ => pdt_cast (pdt_not (pdt_val (pd_mC (⟨R.n, some R.bits, R.n, S.b⟩ : CovA) (Ac_ok F) (hr.mono (by decide)) F.cls_And F.meth_And_covers (M1 := mem K R S) (da := andD (He.ga K "And") R.n (some R.bits)) (pd_ofR (pdr_freeze (M1 := mem K R S) (R' := fun d m => d = andD (He.ga K "And") R.n (some R.bits) ∧ m = mem K R S)
      (pdr_makeD (ds := [.int R.n, .lst (R.bits.map pairD)]) (fun q => (⟨q, R.n, .lst (R.bits.map pairD), some R.bits, .inr ⟨_, rfl, ok.ob.nd, ok.bl, .inr rfl⟩⟩ : AndA)) (fun _ => []) Fi F.mkr_And (hr.mono (by decide)) F.glo_And bi .nil Dfl.nil (pdl_cons (pd_var 2) (pdl_1 (pd_var 3))) (fun q => rfl) (fun q => rfl) (fun q d m h => h.1)) ?_) fun d m h => h) OV.dat
      (pdl_1 (pd_fld (OV.own 1) F.cls_Learner F.noat_Learner_rule (pd_var 9))) rfl))) (by
        show (!covF (some R.bits) S.b) = false
        rw [so.pl.cov]
        rfl)) rfl) (pb_nil (k _ _))
  rintro d m ⟨q, m', rfl, rfl, _, rfl⟩
  exact ⟨q, _, _, rfl, rfl, rfl, rfl⟩
theorem round_loop (F : Fx P w K mg base) (hr : Room 4 (lawA K A s)) {R : Rnd} (ok : ROk R) {S : Sta} (so : SOk R 0 0 S) {ot o1 o2 o3 o4 o5 : Option D} {Nx : List (Option D) → Mem → Prop} {Rt : D → Mem → Prop}
    (k : ∀ ρ m, Nx ρ m) : PB (LX P w K mg base A outer s H E) (Tb K) (rho K R S ot o1 o2 o3 o4 o5) (mem K R S) (roundBody.drop 9) Nx Rt := by
  have nd := sc_law.nd
  have hr1 : Room 1 (lawA K A s) := hr.mono (by decide)
  have r2 := rollV_range S.c (m := 2) (by decide)
  have hm : 0 < (if rollV S.c 2 = 0 then 13 else 60 : Int) ∧ (if rollV S.c 2 = 0 then 13 else 60 : Int) ≤ 60 := by split <;> decide
  have r3 := rollV_range (rollC S.c 2) hm.1
  refine pb_for (M1 := mem K R { S with c := rollC (rollC S.c 2) (if rollV S.c 2 = 0 then 13 else 60) }) (pdi_range1 (j := rollV (rollC S.c 2) (if rollV S.c 2 = 0 then 13 else 60)) F.free_range (pd_roll F 0 hm.1 (by omega) hr1 (pd_var 1) (pd_ixL (ds := [.int 13, .int 60]) (i := rollV S.c 2) LV.dat ?_ (pd_lst (pdl_cons pd_int (pdl_1 pd_int))) (pd_roll F 0 (by decide) (by decide) hr1 (pd_var 1) pd_int))) (by omega) (by omega))
    (pg_name (i := 18) nd rfl (by first | exact Or.inl rfl | exact Or.inr rfl)) (tgt_name 18) (fun i ρ' m => ∃ S' o0 o1 o2 o3 o4 o5, SOk R i i S' ∧ ρ' = rho K R S' o0 o1 o2 o3 o4 o5 ∧ m = mem K R S') ⟨{ S with c := rollC (rollC S.c 2) (if rollV S.c 2 = 0 then 13 else 60) }, _, _, _, _, _, _, withC so _, rfl, rfl⟩ (fun _ _ _ _ _ => trivial) (fun i d h => ⟨_, rfl⟩) (fun i d us ρ' m h1 h2 h3 => ?_) fun ρ' m h => ?_
  · rcases (by omega : rollV S.c 2 = 0 ∨ rollV S.c 2 = 1) with e | e <;> rw [e] <;> rfl
  · obtain ⟨S', o0, o1, o2, o3, o4, o5, so', rfl, rfl⟩ := h3
    obtain ⟨h4, rfl⟩ := rngD_at h1 h2
    exact turn_ok F hr ok so' (by omega)
  · obtain ⟨S', o0, o1, o2, o3, o4, o5, so', rfl, rfl⟩ := h
    rw [rngD_length] at so'
    exact round_end F hr ok so' (by omega) k
theorem round_ok (F : Fx P w K mg base) (hr : Room 4 (lawA K A s)) {a p : Addr} {c : Dice} {Nx : List (Option D) → Mem → Prop} {Rt : D → Mem → Prop} (k : ∀ ρ m, Nx ρ m) :
    PB (LX P w K mg base A outer s H E) (Tb K) [some (.ref a), some (.ref p), none, none, none, none, none, none, none, none, none, none, none, none, none, none, none, none, none, none, none, none, none, none, none, none, none, none] [some (p, .lst (diceD c))] roundBody Nx Rt :=
  setup1 F hr fun c' n bits pl wt rs n0 n1 ob bl b01 p0 p1 wl wb ru rn u3 u4 => setup2 F hr n0 n1 ru rn u3 u4 fun c' hid q1 q2 q3 q4 q5 q6 q7 hm => by
    have ok : ROk ⟨a, p, q1, q2, q3, q4, q5, q6, q7, n, bits, pl, wt, rs, hid⟩ := ⟨n0, n1, ob, bl, b01, p0, p1, wl, wb, ru, rn, hm⟩
    exact round_loop F hr ok (S0_ok ok c') k
end
end H65

set_option Elab.async false
set_option linter.all false
set_option maxRecDepth 100000
set_option maxHeartbeats 4000000
/-! k65: the law. -/
namespace H65
open PySem PySem.Spec PyProof.Rows L2 LW
section
variable {P : Program} {w : World} {K : PySem.W.Frag} {mg : Str → Option Value} {base : Heap}
theorem law_ok (F : Fx P w K mg base) {fd : FuncData} (FD : FunD K "law" "law" (defArgs s_law) (defBody s_law) (defScope s_law) [] [] (He.fAd K ("law", none)) fd) : FnOk P w K mg base CX0 5 (He.fAd K ("law", none)) fd ["script"] (spLaw K w (Tb K) (fun _ => True)) := by
  have Fc := funC_of (p := ("law", none)) FD
  obtain ⟨oc, od, dV, kV, doc, pm, an, ct, osl, rfl, lk, hcd⟩ := Fc.ex
  refine fn_of lk hcd sc_law (fun vs H Q E h => ?_) (fun A outer s H vs Q E hr hsp => ?_)
  · obtain ⟨a, ns, rfl, _⟩ := h
    rfl
  · obtain ⟨a, ns, rfl, _, hS, hs, k⟩ := hsp
    obtain ⟨fr, Fr, br⟩ := (rounds_ok (T := Tb K) F).ex
    have nd := sc_law.nd
    have B : PSs (cxOf CX0 P w K mg base lawN "law" (defScope s_law) (He.fAd K ("law", none)) (.ref (He.codeOf K ("law", none))) A outer s H E).nox (defBody s_law) (fun Dd σ H => SqL K H a (ns.map V.int) ∧ tB w (Tb K) (slots lawN [.ref a]) [] (fun _ _ => False) (fun d _ => d = .bl true) Dd σ H) := psS_for (es := .Constant .none 0 ⟨0, 0, 0, 0⟩) (i0 := 0) (is := [1]) (unp := fun d => some [d]) (post := roundsPost) (ok := fun _ => True)
      Fr (hr.mono (by decide)) F.glo_law_rounds (rounds_ok (T := Tb K) F).kp br trivial rfl rfl (by first | exact Or.inl rfl | exact Or.inr (Or.inl rfl)) (by decide) (by decide)
      (fun d m ⟨p, z, e, _⟩ => ⟨_, e⟩) (pg_name (i := 1) nd rfl (by first | exact Or.inl rfl | exact Or.inr rfl)) (tgt_name 1)
      (fun ds i ρ' m => (i = 0 ∧ ρ' = slots lawN [.ref a] ∧ ∃ p z, ds = [.ref p] ∧ m = [some (p, .lst (diceD (diceOf z)))]) ∨ i = 1)
      (fun ds m ⟨p, z, e, e2⟩ => .inl ⟨rfl, rfl, p, z, by injection e, e2⟩) (fun ds m h i d e => ⟨_, rfl⟩)
      (fun ds m ⟨p, z, e, e2⟩ i d us ρ' M' h1 h2 h3 => by
        injection e with e
        subst e
        have hi : i = 0 := by
          have := (List.getElem?_eq_some_iff.mp h1).1
          simpa using this
        subst hi
        rcases h3 with ⟨_, rfl, p', z', e', rfl⟩ | h3
        · cases e'
          cases h1
          cases h2
          exact round_ok F hr fun _ _ => .inr rfl
        · cases h3)
      (fun ds m h ρ' M' h3 => pb_ret pd_bl rfl)
    refine ⟨_, (B).nox, hS, fun _ => none, hs, SL.start (.cons (.ref a) .nil), fun σ' G' H' ρ' M' n st hs' sl' => n.elim, fun v G' H' d M' n st hs' rd => ?_⟩
    subst n
    cases rd
    exact k H'
end
end H65

set_option Elab.async false
set_option linter.all false
set_option maxRecDepth 100000
set_option maxHeartbeats 0
/-! k65: the claim. -/
namespace H65
open PySem PySem.Spec PyProof.Rows L2 LW
theorem law_at {w : World} {K : PySem.W.Frag} {h : Heap} {mg : Str → Option Value} {f : Addr} (X : K.In h) (G : h.Ns mainGlobals mg) (hfa : mg ("law" : Str) = some (.ref f)) (c : He.SaysX fa fn [] tf (fun _ => true) w h K) :
    LamX.LawAtS PySem.Challenge.rw_lessonwright_k65_whole_mistakes_at_any_s w K L2.CX0 5 63 "script" mg f h := by
  have hd := c.t.d.defs (d := d_law) (by unfold fn; simp)
  obtain ⟨fd, FD⟩ := hd
  have e := hfa.symm.trans (He.glo_ok X G (c.t.d.facts (f := .glo "law") (List.mem_of_getElem? (i := 20) rfl)))
  cases e
  refine ⟨fd, tf.map (He.cT K), spLaw K w (Tb K) (fun _ => True), fun p hp => ?_, fun p hp => ?_, fun p hp => ?_, fun s u => ?_, fun H a ns _ _ ht hS => ?_, fun base hX hG hT => ?_⟩
  · obtain ⟨q, hq, rfl⟩ := List.mem_map.mp hp
    exact c.empty q hq
  · obtain ⟨q, hq, rfl⟩ := List.mem_map.mp hp
    exact c.out q hq
  · obtain ⟨q, hq, rfl⟩ := List.mem_map.mp hp
    exact PySem.W.codeHd_of_K X (c.hd q hq)
  · have b := FunD.bindsA (ps := ["script"]) FD fun _ _ _ _ _ _ us hl => match us, hl with | [_], _ => rfl
    exact b s [u] rfl
  · refine ⟨a, ns, rfl, trivial, hS, ⟨fun _ _ e => (by cases e), fun _ _ e => (by cases e), List.nodup_nil, fun _ _ h => (by cases h), fun P hP => ?_⟩, fun _ => rfl⟩
    obtain ⟨q, hq, rfl⟩ := List.mem_map.mp hP
    exact ⟨#[], ht q hq, trivial⟩
  · have F : Fx (PySem.Challenge.rw_lessonwright_k65_whole_mistakes_at_any_s).prog w K mg base := ⟨fun f hf => c.t.d.facts hf, fun d hd => c.t.d.defs hd, ⟨h, X, G⟩, fun p hp => hT _ (List.mem_map.mpr ⟨p, hp, rfl⟩)⟩
    exact law_ok F FD
end H65
open PySem PySem.W PySem.Calls PyProof.Rows
theorem PySem.Challenge.cw_lessonwright_k65_whole_mistakes_at_any_s_holds : PySem.Challenge.rw_lessonwright_k65_whole_mistakes_at_any_s.Holds := by
  w_on; o_law
  refine HandSHeadRun.head_any (r := OpenLaw.row PySem.Challenge.rw_lessonwright_k65_whole_mistakes_at_any_s) (q := view (OpenLaw.row PySem.Challenge.rw_lessonwright_k65_whole_mistakes_at_any_s).prog [38]) (H := H65.hk) (ob := H65.ob) (M := 20000) (loose := H65.names) (d := HandSHeadRun.topDef (OpenLaw.row PySem.Challenge.rw_lessonwright_k65_whole_mistakes_at_any_s).prog 38) (kwd := []) H65.ob_eq
    (by kernel_rfl) (fun s => by kernel_rfl) H65.run (by kernel_rfl) (by kernel_rfl) (by kernel_rfl) (by rfl) (by first | assumption | decide +kernel) (by decide +kernel) ⟨rfl, rfl, rfl, rfl, rfl, by decide +kernel⟩ ?hw ?hc
  case hw => w_witness2
  case hc =>
    refine LamX.walk_ofTsE (l := PySem.Challenge.rw_lessonwright_k65_whole_mistakes_at_any_s) (n := 63) (k := 5) (x := "script") (CX := fun _ => L2.CX0) rfl (by decide) (by kernel_rfl) ⟨rfl, by decide, by decide⟩ ?F (fun _ _ _ _ _ z => z)
    intro w mg fa h Y G hmg0
    obtain ⟨K, KX, c⟩ := Y
    have hmg : mg ("law" : PySem.Str) = some (.ref fa) := by
      have e : (HandSHeadRun.topDef (OpenLaw.row PySem.Challenge.rw_lessonwright_k65_whole_mistakes_at_any_s).prog 38).name = ("law" : PySem.Str) := by kernel_rfl
      rw [← e]
      exact hmg0
    exact ⟨K, KX, H65.law_at KX G hmg c⟩

