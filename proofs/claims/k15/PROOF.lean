import PyProof.Rows.All
import Wide.All
import OpenK.AllK
import Wide.FinOn
import HandS.ForMost
import HandS.ForExc
import HandS.Deep
import HandS.SetBool
import HandS.IsInst
import HandS.Ends
import HandS.Text
import HandS.ExcIs
import HandS.HotCalls
import HandS.More
import HandS.Dict
import HandS.WordsDict
import HandS.Iter
import KE.DatumOrd
import HandS.TryMany
import KE.KDictWalk
import HandS.Steps
import HandS.TupLen
import HandS.DictSubView
import HandS.Conv
import HandS.Comp
import HandS.SuiteRaise
import HandS.ExcCtx
import KE.KxIndex
import PyProof.Rows.StrJoinRep
import HandS.Codes
import PySem.Challenge.RW_askhouse_k15_texts_that_write_no_house
set_option Elab.async false
set_option linter.all false
set_option maxRecDepth 100000
set_option maxHeartbeats 4000000
/-! States as plain data: what slots hold (Dt), what is owned (Ms), over a heap that only grows (G). -/
namespace Ask
open PySem L2

def Ex (G H : Hp) : Prop := ∀ a o, G a = some o → H a = some o
theorem Ex.refl (G : Hp) : Ex G G := fun _ _ h => h
theorem Ex.trans {A B C : Hp} (x : Ex A B) (y : Ex B C) : Ex A C := fun a o h => y a o (x a o h)
theorem Ex.new {G : Hp} {p : Addr} {o : HO} (h : G p = none) : Ex G (upd G p o) := fun a u e => by
  rw [upd_ne (ne_of_none e h)]; exact e

/-- data -/
inductive Dt where
  | non | bl (b : Bool) | int (i : Int) | str (s : Str) | ref (a : Addr) | ty (n : String) | scr (ns : List Int)
  | lst (ds : List Dt) | tup (ds : List Dt) | ins (C : Addr) (fs : List Str) (ds : List Dt)

mutual
inductive Rep (K : PySem.W.Frag) (G : Hp) : V → Dt → Prop
  | non : Rep K G .non .non
  | bl (b : Bool) : Rep K G (.bl b) (.bl b)
  | int (i : Int) : Rep K G (.int i) (.int i)
  | str (s : Str) : Rep K G (.str s) (.str s)
  | ref (a : Addr) : Rep K G (.ref a) (.ref a)
  | ty (n : String) : Rep K G (.ty n) (.ty n)
  | scr {a : Addr} {ns : List Int} : SqL K G a (ns.map V.int) → Rep K G (.ref a) (.scr ns)
  | lst {a : Addr} {vs : List V} {ds : List Dt} : G a = some (.lst vs) → RepAll K G vs ds → Rep K G (.ref a) (.lst ds)
  | tup {a : Addr} {vs : List V} {ds : List Dt} : G a = some (.tup vs) → RepAll K G vs ds → Rep K G (.ref a) (.tup ds)
  | ins {a C dx : Addr} {fs : List Str} {vs : List V} {ds : List Dt} : G a = some (.ins C dx (fs.zip vs)) → fs.length = vs.length → RepAll K G vs ds → Rep K G (.ref a) (.ins C fs ds)
inductive RepAll (K : PySem.W.Frag) (G : Hp) : List V → List Dt → Prop
  | nil : RepAll K G [] []
  | cons {v : V} {vs : List V} {d : Dt} {ds : List Dt} : Rep K G v d → RepAll K G vs ds → RepAll K G (v :: vs) (d :: ds)
end

theorem sql_ex {K : PySem.W.Frag} {G G' : Hp} {a : Addr} {xs : List V} (e : Ex G G') (h : SqL K G a xs) : SqL K G' a xs := by
  rcases h with (h | ⟨o, h⟩) | h
  · exact .inl (.inl (e _ _ h))
  · exact .inl (.inr ⟨o, e _ _ h⟩)
  · exact .inr h
mutual
theorem Rep.mono {K : PySem.W.Frag} {G G' : Hp} (e : Ex G G') : ∀ {v : V} {d : Dt}, Rep K G v d → Rep K G' v d
  | _, _, .non => .non
  | _, _, .bl b => .bl b
  | _, _, .int i => .int i
  | _, _, .str s => .str s
  | _, _, .ref a => .ref a
  | _, _, .ty n => .ty n
  | _, _, .scr h => .scr (sql_ex e h)
  | _, _, .lst h r => .lst (e _ _ h) (RepAll.mono e r)
  | _, _, .tup h r => .tup (e _ _ h) (RepAll.mono e r)
  | _, _, .ins h l r => .ins (e _ _ h) l (RepAll.mono e r)
theorem RepAll.mono {K : PySem.W.Frag} {G G' : Hp} (e : Ex G G') : ∀ {vs : List V} {ds : List Dt}, RepAll K G vs ds → RepAll K G' vs ds
  | _, _, .nil => .nil
  | _, _, .cons h r => .cons (Rep.mono e h) (RepAll.mono e r)
end

section
variable {K : PySem.W.Frag} {G G' H H' : Hp}
theorem RepAll.len : ∀ {vs : List V} {ds : List Dt}, RepAll K G vs ds → vs.length = ds.length
  | _, _, .nil => rfl
  | _, _, .cons _ r => congrArg Nat.succ r.len
theorem RepAll.get : ∀ {vs : List V} {ds : List Dt} {i : Nat} {d : Dt}, RepAll K G vs ds → ds[i]? = some d → ∃ v, vs[i]? = some v ∧ Rep K G v d
  | _, _, 0, _, .cons r _, h => by
    simp only [List.getElem?_cons_zero, Option.some.injEq] at h; subst h; exact ⟨_, rfl, r⟩
  | _, _, i + 1, d, .cons _ t, h => by
    simp only [List.getElem?_cons_succ] at h ⊢
    exact t.get h
  | _, _, i, _, .nil, h => by simp at h
theorem RepAll.getV : ∀ {vs : List V} {ds : List Dt} {i : Nat} {v : V}, RepAll K G vs ds → vs[i]? = some v → ∃ d, ds[i]? = some d ∧ Rep K G v d
  | _, _, 0, _, .cons r _, h => by
    simp only [List.getElem?_cons_zero, Option.some.injEq] at h; subst h; exact ⟨_, rfl, r⟩
  | _, _, i + 1, d, .cons _ t, h => by
    simp only [List.getElem?_cons_succ] at h ⊢
    exact t.getV h
  | _, _, i, _, .nil, h => by simp at h
theorem RepAll.append : ∀ {vs ws : List V} {ds es : List Dt}, RepAll K G vs ds → RepAll K G ws es → RepAll K G (vs ++ ws) (ds ++ es)
  | _, _, _, _, .nil, s => s
  | _, _, _, _, .cons r t, s => .cons r (t.append s)
theorem RepAll.set {v : V} {d : Dt} (r : Rep K G v d) : ∀ {vs : List V} {ds : List Dt} (i : Nat), RepAll K G vs ds → RepAll K G (vs.set i v) (ds.set i d)
  | _, _, _, .nil => .nil
  | _, _, 0, .cons _ t => .cons r t
  | _, _, i + 1, .cons q t => .cons q (t.set r i)
theorem RepAll.take : ∀ {vs : List V} {ds : List Dt} (n : Nat), RepAll K G vs ds → RepAll K G (vs.take n) (ds.take n)
  | _, _, 0, _ => .nil
  | _, _, _ + 1, .nil => .nil
  | _, _, n + 1, .cons r t => .cons r (t.take n)
theorem RepAll.drop : ∀ {vs : List V} {ds : List Dt} (n : Nat), RepAll K G vs ds → RepAll K G (vs.drop n) (ds.drop n)
  | _, _, 0, r => r
  | _, _, _ + 1, .nil => .nil
  | _, _, n + 1, .cons _ t => t.drop n
theorem RepAll.erase : ∀ {vs : List V} {ds : List Dt} (i : Nat), RepAll K G vs ds → RepAll K G (vs.eraseIdx i) (ds.eraseIdx i)
  | _, _, _, .nil => .nil
  | _, _, 0, .cons _ t => t
  | _, _, i + 1, .cons q t => .cons q (t.erase i)
theorem RepAll.one {v : V} {d : Dt} (r : Rep K G v d) : RepAll K G [v] [d] := .cons r .nil
theorem Rep.intOf {v : V} {i : Int} (r : Rep K G v (.int i)) : v = .int i := by cases r; rfl
theorem Rep.blOf {v : V} {b : Bool} (r : Rep K G v (.bl b)) : v = .bl b := by cases r; rfl
theorem Rep.strOf {v : V} {s : Str} (r : Rep K G v (.str s)) : v = .str s := by cases r; rfl
theorem Rep.refOf {v : V} {a : Addr} (r : Rep K G v (.ref a)) : v = .ref a := by cases r; rfl
theorem Rep.tyOf {v : V} {n : String} (r : Rep K G v (.ty n)) : v = .ty n := by cases r; rfl
theorem Rep.nonOf {v : V} (r : Rep K G v .non) : v = .non := by cases r; rfl
theorem Rep.lstOf {v : V} {ds : List Dt} (r : Rep K G v (.lst ds)) : ∃ a vs, v = .ref a ∧ G a = some (.lst vs) ∧ RepAll K G vs ds := by
  cases r with | lst h t => exact ⟨_, _, rfl, h, t⟩
theorem Rep.tupOf {v : V} {ds : List Dt} (r : Rep K G v (.tup ds)) : ∃ a vs, v = .ref a ∧ G a = some (.tup vs) ∧ RepAll K G vs ds := by
  cases r with | tup h t => exact ⟨_, _, rfl, h, t⟩
theorem Rep.scrOf {v : V} {ns : List Int} (r : Rep K G v (.scr ns)) : ∃ a, v = .ref a ∧ SqL K G a (ns.map V.int) := by
  cases r with | scr h => exact ⟨_, rfl, h⟩
theorem Rep.insOf {v : V} {C : Addr} {fs : List Str} {ds : List Dt} (r : Rep K G v (.ins C fs ds)) : ∃ a dx vs, v = .ref a ∧ G a = some (.ins C dx (fs.zip vs)) ∧ fs.length = vs.length ∧ RepAll K G vs ds := by
  cases r with | ins h l t => exact ⟨_, _, _, rfl, h, l, t⟩
theorem RepAll.ints : ∀ {vs : List V} {ns : List Int}, RepAll K G vs (ns.map Dt.int) → vs = ns.map V.int
  | _, [], .nil => rfl
  | _, n :: ns, .cons r t => by rw [r.intOf, t.ints]; rfl
theorem RepAll.bls : ∀ {vs : List V} {bs : List Bool}, RepAll K G vs (bs.map Dt.bl) → vs = bs.map V.bl
  | _, [], .nil => rfl
  | _, n :: ns, .cons r t => by rw [r.blOf, t.bls]; rfl
theorem RepAll.strs : ∀ {vs : List V} {bs : List Str}, RepAll K G vs (bs.map Dt.str) → vs = bs.map V.str
  | _, [], .nil => rfl
  | _, n :: ns, .cons r t => by rw [r.strOf, t.strs]; rfl
theorem repAll_ints : ∀ ns : List Int, RepAll K G (ns.map V.int) (ns.map Dt.int)
  | [] => .nil
  | n :: ns => .cons (.int n) (repAll_ints ns)
theorem repAll_bls : ∀ ns : List Bool, RepAll K G (ns.map V.bl) (ns.map Dt.bl)
  | [] => .nil
  | n :: ns => .cons (.bl n) (repAll_bls ns)
end

/-- what a dict holds under a key; a dict with one more entry -/
def getK {κ α : Type} [DecidableEq κ] (kvs : List (κ × α)) (k : κ) : Option α := (kvs.find? fun kv => decide (kv.1 = k)).map (·.2)
def putKD {κ α : Type} [DecidableEq κ] (kvs : List (κ × α)) (k : κ) (v : α) : List (κ × α) :=
  if (getK kvs k).isSome then kvs.map fun kv => if kv.1 = k then (kv.1, v) else kv else kvs ++ [(k, v)]
inductive RepKV (K : PySem.W.Frag) (G : Hp) {κ : Type} : List (κ × V) → List (κ × Dt) → Prop
  | nil : RepKV K G [] []
  | cons {k : κ} {v : V} {d : Dt} {r : List (κ × V)} {s : List (κ × Dt)} : Rep K G v d → RepKV K G r s → RepKV K G ((k, v) :: r) ((k, d) :: s)
section
variable {K : PySem.W.Frag} {G G' H H' : Hp} {κ : Type}
theorem RepKV.mono (e : Ex G G') : ∀ {x : List (κ × V)} {y : List (κ × Dt)}, RepKV K G x y → RepKV K G' x y
  | _, _, .nil => .nil
  | _, _, .cons r t => .cons (r.mono e) (t.mono e)
theorem RepKV.len : ∀ {x : List (κ × V)} {y : List (κ × Dt)}, RepKV K G x y → x.length = y.length
  | _, _, .nil => rfl
  | _, _, .cons _ t => congrArg Nat.succ t.len
theorem RepKV.append : ∀ {x x' : List (κ × V)} {y y' : List (κ × Dt)}, RepKV K G x y → RepKV K G x' y' → RepKV K G (x ++ x') (y ++ y')
  | _, _, _, _, .nil, s => s
  | _, _, _, _, .cons r t, s => .cons r (t.append s)
variable [DecidableEq κ]
theorem RepKV.none {k : κ} : ∀ {x : List (κ × V)} {y : List (κ × Dt)}, RepKV K G x y → getK y k = Option.none → valV x k = Option.none
  | _, _, .nil, _ => rfl
  | (k', v) :: r, (_, d) :: s, .cons q t, h => by
    by_cases e : k' = k
    · subst e; simp [getK] at h
    · have h' : getK s k = Option.none := by simpa [getK, List.find?_cons, e] using h
      rw [valV_neg (by simpa using e)]
      exact t.none h'
theorem RepKV.some {k : κ} {d : Dt} : ∀ {x : List (κ × V)} {y : List (κ × Dt)}, RepKV K G x y → getK y k = Option.some d → ∃ v, valV x k = Option.some v ∧ Rep K G v d
  | _, _, .nil, h => by simp [getK] at h
  | (k', v) :: r, (_, d') :: s, .cons q t, h => by
    by_cases e : k' = k
    · subst e
      have : d' = d := by simpa [getK] using h
      subst this
      exact ⟨v, valV_pos rfl, q⟩
    · have h' : getK s k = Option.some d := by simpa [getK, List.find?_cons, e] using h
      rw [valV_neg (by simpa using e)]
      exact t.some h'
theorem RepKV.map {k : κ} {v : V} {d : Dt} (q : Rep K G v d) : ∀ {x : List (κ × V)} {y : List (κ × Dt)}, RepKV K G x y →
    RepKV K G (x.map fun kv => if kv.1 = k then (kv.1, v) else kv) (y.map fun kv => if kv.1 = k then (kv.1, d) else kv)
  | _, _, .nil => .nil
  | (k', v') :: r, (_, d') :: s, .cons q' t => by
    by_cases e : k' = k
    · simp only [List.map_cons, if_pos e]; exact .cons q (t.map q)
    · simp only [List.map_cons, if_neg e]; exact .cons q' (t.map q)
theorem RepKV.put {k : κ} {v : V} {d : Dt} (q : Rep K G v d) {x : List (κ × V)} {y : List (κ × Dt)} (t : RepKV K G x y) : RepKV K G (putK x k v) (putKD y k d) := by
  unfold putK putKD
  have e : (x.any fun kv => decide (kv.1 = k)) = (getK y k).isSome := by
    rw [valV_any]
    cases h : getK y k with
    | none => rw [t.none h]; rfl
    | some d' => obtain ⟨v', h', _⟩ := t.some h; rw [h']; rfl
  first | rw [e] | skip
  cases h : (getK y k).isSome with
  | true => simpa [h, e] using t.map q
  | false => simpa [h, e] using t.append (.cons q .nil)
end

/-! ### owned cells -/
inductive Cell where
  | lst (ds : List Dt) | dT (kvs : List (List Key × Dt)) | dK (kvs : List (Key × Dt)) | dB (kvs : List (Bool × Dt)) | ins (C : Addr) (fs : List Str) (ds : List Dt)
inductive Ent where
  | one (a : Addr) (c : Cell) | many (ps : List Addr) (rows : List (List Dt))
abbrev Ms := List Ent
abbrev Sl := List (Option Dt)
def Ent.fp : Ent → List Addr
  | .one a _ => [a]
  | .many ps _ => ps
def fpM (M : Ms) : List Addr := M.flatMap Ent.fp
theorem fpM_cons (e : Ent) (M : Ms) : fpM (e :: M) = e.fp ++ fpM M := by simp [fpM]
theorem fpM_app (M N : Ms) : fpM (M ++ N) = fpM M ++ fpM N := by simp [fpM]
theorem fpM_nil : fpM [] = [] := rfl
/-- a dict whose keys are truth values -/
def dBo (a : Addr) (ws : List (Bool × V)) : HO := .ext fun h => ws.length ≤ sizeLine ∧ (a == sysModules) = false ∧ ∃ vs, KV ws vs ∧ ∀ (P : Program) (w : World), h.DictOf (PpSet.boolK P w) a vs
def CellAt (K : PySem.W.Frag) (G H : Hp) (a : Addr) : Cell → Prop
  | .lst ds => ∃ vs, H a = some (.lst vs) ∧ RepAll K G vs ds
  | .dT kvs => ∃ ws, H a = some (.dT ws) ∧ RepKV K G ws kvs
  | .dK kvs => ∃ ws, H a = some (.dK ws) ∧ RepKV K G ws kvs
  | .dB kvs => ∃ ws, H a = some (dBo a ws) ∧ RepKV K G ws kvs
  | .ins C fs ds => ∃ dx vs, H a = some (.ins C dx (fs.zip vs)) ∧ fs.length = vs.length ∧ RepAll K G vs ds
def EntAt (K : PySem.W.Frag) (G H : Hp) : Ent → Prop
  | .one a c => CellAt K G H a c
  | .many ps rows => ps.length = rows.length ∧ ∀ (i : Nat) (a : Addr) (ds : List Dt), ps[i]? = some a → rows[i]? = some ds → CellAt K G H a (.lst ds)
theorem CellAt.there {K : PySem.W.Frag} {G H : Hp} {a : Addr} {c : Cell} (h : CellAt K G H a c) : ∃ o, H a = some o := by
  cases c with
  | lst ds => obtain ⟨_, h, _⟩ := h; exact ⟨_, h⟩
  | dT ds => obtain ⟨_, h, _⟩ := h; exact ⟨_, h⟩
  | dK ds => obtain ⟨_, h, _⟩ := h; exact ⟨_, h⟩
  | dB ds => obtain ⟨_, h, _⟩ := h; exact ⟨_, h⟩
  | ins C fs ds => obtain ⟨_, _, h, _⟩ := h; exact ⟨_, h⟩
theorem CellAt.ex {K : PySem.W.Frag} {G G' H H' : Hp} {a : Addr} {c : Cell} (e : Ex G G') (k : ∀ o, H a = some o → H' a = some o) (h : CellAt K G H a c) : CellAt K G' H' a c := by
  cases c with
  | lst ds => obtain ⟨vs, h, r⟩ := h; exact ⟨vs, k _ h, r.mono e⟩
  | dT ds => obtain ⟨vs, h, r⟩ := h; exact ⟨vs, k _ h, r.mono e⟩
  | dK ds => obtain ⟨vs, h, r⟩ := h; exact ⟨vs, k _ h, r.mono e⟩
  | dB ds => obtain ⟨vs, h, r⟩ := h; exact ⟨vs, k _ h, r.mono e⟩
  | ins C fs ds => obtain ⟨dx, vs, h, l, r⟩ := h; exact ⟨dx, vs, k _ h, l, r.mono e⟩
theorem EntAt.there {K : PySem.W.Frag} {G H : Hp} {e : Ent} (h : EntAt K G H e) {a : Addr} (ha : a ∈ e.fp) : ∃ o, H a = some o := by
  cases e with
  | one b c => simp only [Ent.fp, List.mem_singleton] at ha; subst ha; exact CellAt.there h
  | many ps rows =>
    obtain ⟨l, h⟩ := h
    obtain ⟨i, hi, e⟩ := List.getElem_of_mem (show a ∈ ps from ha)
    have q : ps[i]? = some a := by rw [List.getElem?_eq_getElem hi, e]
    have hi' : i < rows.length := by omega
    exact (h i a rows[i] q (by simp [hi'])).there
theorem EntAt.ex {K : PySem.W.Frag} {G G' H H' : Hp} {e : Ent} (x : Ex G G') (k : ∀ a ∈ e.fp, ∀ o, H a = some o → H' a = some o) (h : EntAt K G H e) : EntAt K G' H' e := by
  cases e with
  | one b c => exact CellAt.ex x (k b (by simp [Ent.fp])) h
  | many ps rows =>
    obtain ⟨l, h⟩ := h
    exact ⟨l, fun i a ds ha hr => CellAt.ex x (k a (by
      show a ∈ ps
      exact List.mem_of_getElem? ha)) (h i a ds ha hr)⟩

/-- where one comes from: the grown part, the heap, what may be changed -/
structure Fr where
  G0 : Hp
  H0 : Hp
  T : List Addr
structure Lay (K : PySem.W.Frag) (B : Fr) (G : Hp) (M : Ms) (H : Hp) : Prop where
  sub : Ex G H
  nd : (fpM M).Nodup
  free : ∀ a ∈ fpM M, G a = none
  ats : ∀ e ∈ M, EntAt K G H e
  keep : ∀ a o, B.H0 a = some o → a ∉ B.T → H a = some o
  gfix : ∀ a, B.H0 a ≠ none → G a = B.G0 a
  new : ∀ a ∈ fpM M, a ∈ B.T ∨ B.H0 a = none
  tin : ∀ a ∈ B.T, a ∈ fpM M
section
variable {K : PySem.W.Frag} {B : Fr} {G G' H H' : Hp} {M M' : Ms} {p : Addr} {c c' : Cell}
theorem mem_fpM {e : Ent} {a : Addr} (he : e ∈ M) (ha : a ∈ e.fp) : a ∈ fpM M := List.mem_flatMap.mpr ⟨e, he, ha⟩
theorem Lay.there (L : Lay K B G M H) {a : Addr} (ha : a ∈ fpM M) : ∃ o, H a = some o := by
  obtain ⟨e, he, h⟩ := List.mem_flatMap.mp ha
  exact (L.ats e he).there h
theorem Lay.fresh0 (L : Lay K B G M H) {p : Addr} (h : H p = none) : B.H0 p = none := by
  cases q : B.H0 p with
  | none => rfl
  | some o =>
    by_cases t : p ∈ B.T
    · obtain ⟨o', e⟩ := L.there (L.tin p t); rw [h] at e; cases e
    · rw [L.keep p o q t] at h; cases h
theorem Lay.freshG (L : Lay K B G M H) {p : Addr} (h : H p = none) : G p = none := by
  cases q : G p with
  | none => rfl
  | some o => rw [L.sub p o q] at h; cases h
theorem Lay.freshM (L : Lay K B G M H) {p : Addr} (h : H p = none) : p ∉ fpM M := fun q => by
  obtain ⟨o, e⟩ := L.there q; rw [h] at e; cases e
/-- a new thing that stays as it is -/
theorem Lay.laid (L : Lay K B G M H) {p : Addr} {o : HO} (h : H p = none) : Lay K B (upd G p o) M (upd H p o) where
  sub := fun a u e => by
    by_cases q : a = p
    · subst q; rw [upd_same] at e ⊢; exact e
    · rw [upd_ne q] at e ⊢; exact L.sub a u e
  nd := L.nd
  free := fun a ha => by
    have q : a ≠ p := fun q => L.freshM h (q ▸ ha)
    rw [upd_ne q]; exact L.free a ha
  ats := fun e he => (L.ats e he).ex (Ex.new (L.freshG h)) fun a ha o' z => by
    have q : a ≠ p := fun q => L.freshM h (q ▸ mem_fpM he ha)
    rw [upd_ne q]; exact z
  keep := fun a u e t => by
    have q : a ≠ p := fun q => by rw [q, L.fresh0 h] at e; cases e
    rw [upd_ne q]; exact L.keep a u e t
  gfix := fun a e => by
    have q : a ≠ p := fun q => e (q ▸ L.fresh0 h)
    rw [upd_ne q]; exact L.gfix a e
  new := L.new
  tin := L.tin
/-- a new thing that is owned -/
theorem Lay.laidM (L : Lay K B G M H) {p : Addr} {o : HO} {c : Cell} (h : H p = none) (hc : CellAt K G (upd H p o) p c) : Lay K B G (.one p c :: M) (upd H p o) where
  sub := fun a u e => by
    have q : a ≠ p := fun q => by rw [q, L.freshG h] at e; cases e
    rw [upd_ne q]; exact L.sub a u e
  nd := by
    rw [fpM_cons]
    exact List.nodup_cons.mpr ⟨L.freshM h, L.nd⟩
  free := fun a ha => by
    rw [fpM_cons] at ha
    rcases List.mem_cons.mp ha with q | q
    · rw [q]; exact L.freshG h
    · exact L.free a q
  ats := fun e he => by
    rcases List.mem_cons.mp he with q | q
    · subst q; exact hc
    · refine (L.ats e q).ex (Ex.refl G) fun a ha o' z => ?_
      have n : a ≠ p := fun n => L.freshM h (n ▸ mem_fpM q ha)
      rw [upd_ne n]; exact z
  keep := fun a u e t => by
    have q : a ≠ p := fun q => by rw [q, L.fresh0 h] at e; cases e
    rw [upd_ne q]; exact L.keep a u e t
  gfix := L.gfix
  new := fun a ha => by
    rw [fpM_cons] at ha
    rcases List.mem_cons.mp ha with q | q
    · rw [q]; exact .inr (L.fresh0 h)
    · exact L.new a q
  tin := fun a ha => by
    rw [fpM_cons]
    exact List.mem_cons_of_mem _ (L.tin a ha)
/-- a thing that does not matter is laid -/
theorem Lay.laid0 (L : Lay K B G M H) {p : Addr} {o : HO} (h : H p = none) : Lay K B G M (upd H p o) where
  sub := fun a u e => by
    have q : a ≠ p := fun q => by rw [q, L.freshG h] at e; cases e
    rw [upd_ne q]; exact L.sub a u e
  nd := L.nd
  free := L.free
  ats := fun e he => (L.ats e he).ex (Ex.refl _) fun a ha o' z => by
    have q : a ≠ p := fun q => L.freshM h (q ▸ mem_fpM he ha)
    rw [upd_ne q]; exact z
  keep := fun a u e t => by
    have q : a ≠ p := fun q => by rw [q, L.fresh0 h] at e; cases e
    rw [upd_ne q]; exact L.keep a u e t
  gfix := L.gfix
  new := L.new
  tin := L.tin
theorem Lay.perm (L : Lay K B G M H) (h : M.Perm M') : Lay K B G M' H := by
  have hf : (fpM M).Perm (fpM M') := h.flatMap_right _
  exact ⟨L.sub, hf.nodup_iff.mp L.nd, fun a ha => L.free a (hf.mem_iff.mpr ha), fun e he => L.ats e (h.mem_iff.mpr he), L.keep, L.gfix, fun a ha => L.new a (hf.mem_iff.mpr ha), fun a ha => hf.mem_iff.mp (L.tin a ha)⟩
/-- what stood stands -/
theorem Lay.grown {T : List Addr} (L : Lay K ⟨G, H, T⟩ G' M' H') (x : Ex G H) : Ex G G' := fun a o e => by
  have q := L.gfix a (by show H a ≠ none; rw [x a o e]; simp)
  exact q.trans e
/-- a callee's cells put back into the caller's -/
theorem Lay.back {Ma Ma' Mr : Ms} (L : Lay K B G (Ma ++ Mr) H) (L' : Lay K ⟨G, H, fpM Ma⟩ G' Ma' H') : Lay K B G' (Ma' ++ Mr) H' := by
  have nd := L.nd
  rw [fpM_app] at nd
  obtain ⟨n1, n2, n3⟩ := List.nodup_append.mp nd
  have ms : ∀ a ∈ fpM Ma, a ∈ fpM (Ma ++ Mr) := fun a h => by rw [fpM_app]; exact List.mem_append_left _ h
  have mr : ∀ a ∈ fpM Mr, a ∈ fpM (Ma ++ Mr) := fun a h => by rw [fpM_app]; exact List.mem_append_right _ h
  have hr : ∀ a ∈ fpM Mr, H a ≠ none := fun a ha q => L.freshM q (mr a ha)
  have e : Ex G G' := L'.grown L.sub
  have apart : ∀ a ∈ fpM Mr, a ∉ fpM Ma := fun a h1 h2 => n3 a h2 a h1 rfl
  have sm : ∀ a ∈ fpM Ma', a ∉ fpM Mr := fun a h1 h2 => by
    rcases L'.new a h1 with q | q
    · exact apart a h2 q
    · exact hr a h2 q
  have bh : ∀ a, B.H0 a ≠ none → H a ≠ none := fun a h q => h (L.fresh0 q)
  refine ⟨L'.sub, ?_, ?_, ?_, ?_, ?_, ?_, ?_⟩
  · rw [fpM_app]
    exact List.nodup_append.mpr ⟨L'.nd, n2, fun a h1 b h2 q => sm a h1 (q ▸ h2)⟩
  · intro a ha
    rw [fpM_app] at ha
    rcases List.mem_append.mp ha with q | q
    · exact L'.free a q
    · exact (L'.gfix a (hr a q)).trans (L.free a (mr a q))
  · intro x hx
    rcases List.mem_append.mp hx with q | q
    · exact L'.ats x q
    · exact (L.ats x (List.mem_append_right _ q)).ex e fun a ha o z => L'.keep a o z (apart a (mem_fpM q ha))
  · intro a o h t
    refine L'.keep a o (L.keep a o h t) fun q => ?_
    rcases L.new a (ms a q) with z | z
    · exact t z
    · rw [z] at h; cases h
  · intro a h
    exact (L'.gfix a (bh a h)).trans (L.gfix a h)
  · intro a ha
    rw [fpM_app] at ha
    rcases List.mem_append.mp ha with q | q
    · rcases L'.new a q with z | z
      · exact L.new a (ms a z)
      · refine .inr ?_
        cases w : B.H0 a with
        | none => rfl
        | some o => exact absurd z (bh a (by rw [w]; simp))
    · exact L.new a (mr a q)
  · intro a ha
    have h := L.tin a ha
    rw [fpM_app] at h ⊢
    rcases List.mem_append.mp h with q | q
    · exact List.mem_append_left _ (L'.tin a q)
    · exact List.mem_append_right _ q
/-- a callee starts -/
theorem Lay.enter {Ma Mr : Ms} (L : Lay K B G (Ma ++ Mr) H) : Lay K ⟨G, H, fpM Ma⟩ G Ma H := by
  have nd := L.nd
  rw [fpM_app] at nd
  obtain ⟨n1, n2, n3⟩ := List.nodup_append.mp nd
  exact ⟨L.sub, n1, fun a h => L.free a (by rw [fpM_app]; exact List.mem_append_left _ h), fun e h => L.ats e (List.mem_append_left _ h), fun a o h _ => h, fun a _ => rfl, fun a h => .inl h, fun a h => h⟩
/-- the thing of a cell is changed -/
theorem Lay.change (L : Lay K B G (.one p c :: M) H) {o : HO} (hc : CellAt K G (upd H p o) p c') : Lay K B G (.one p c' :: M) (upd H p o) := by
  have hp : p ∈ fpM (.one p c :: M) := by rw [fpM_cons]; exact List.mem_cons_self
  have nd := L.nd
  rw [fpM_cons] at nd
  have np : p ∉ fpM M := (List.nodup_cons.mp nd).1
  refine ⟨fun a u e => ?_, L.nd, L.free, fun e he => ?_, fun a u e t => ?_, L.gfix, L.new, L.tin⟩
  · have q : a ≠ p := fun q => by rw [q, L.free p hp] at e; cases e
    rw [upd_ne q]; exact L.sub a u e
  · rcases List.mem_cons.mp he with q | q
    · subst q; exact hc
    · refine (L.ats e (List.mem_cons_of_mem _ q)).ex (Ex.refl G) fun a ha o' z => ?_
      have n : a ≠ p := fun n => np (n ▸ mem_fpM q ha)
      rw [upd_ne n]; exact z
  · have q : a ≠ p := fun q => by
      rcases L.new p hp with z | z
      · exact t (q ▸ z)
      · rw [q, z] at e; cases e
    rw [upd_ne q]; exact L.keep a u e t
/-- a row of a block is changed -/
theorem Lay.changeRow {ps : List Addr} {rows : List (List Dt)} {j : Nat} {p : Addr} {o : HO} {ds' : List Dt} (L : Lay K B G (.many ps rows :: M) H) (hj : ps[j]? = some p) (hc : CellAt K G (upd H p o) p (.lst ds')) :
    Lay K B G (.many ps (rows.set j ds') :: M) (upd H p o) := by
  have mp : p ∈ ps := List.mem_of_getElem? hj
  have hp : p ∈ fpM (.many ps rows :: M) := by rw [fpM_cons]; exact List.mem_append_left _ mp
  have nd := L.nd
  rw [fpM_cons] at nd
  obtain ⟨n1, n2, n3⟩ := List.nodup_append.mp nd
  have np : p ∉ fpM M := fun q => n3 p mp p q rfl
  refine ⟨fun a u e => ?_, L.nd, L.free, fun e he => ?_, fun a u e t => ?_, L.gfix, L.new, L.tin⟩
  · have q : a ≠ p := fun q => by rw [q, L.free p hp] at e; cases e
    rw [upd_ne q]; exact L.sub a u e
  · rcases List.mem_cons.mp he with q | q
    · subst q
      obtain ⟨l, h⟩ := L.ats _ List.mem_cons_self
      refine ⟨by rw [List.length_set]; exact l, fun i a ds ha hr => ?_⟩
      by_cases e : i = j
      · subst e
        have : a = p := Option.some.inj (ha.symm.trans hj)
        subst this
        have hl : i < rows.length := by
          have := (List.getElem?_eq_some_iff.mp hj).1; omega
        rw [List.getElem?_set_self hl] at hr
        cases hr
        exact hc
      · rw [List.getElem?_set_ne (fun q => e q.symm)] at hr
        have n : a ≠ p := fun n => e (by
          subst n
          obtain ⟨h1, e1⟩ := List.getElem?_eq_some_iff.mp ha
          obtain ⟨h2, e2⟩ := List.getElem?_eq_some_iff.mp hj
          exact (List.getElem_inj n1).mp (e1.trans e2.symm))
        exact CellAt.ex (Ex.refl G) (fun o z => by rw [upd_ne n]; exact z) (h i a ds ha hr)
    · refine (L.ats e (List.mem_cons_of_mem _ q)).ex (Ex.refl G) fun a ha o' z => ?_
      have n : a ≠ p := fun n => np (n ▸ mem_fpM q ha)
      rw [upd_ne n]; exact z
  · have q : a ≠ p := fun q => by
      rcases L.new p hp with z | z
      · exact t (q ▸ z)
      · rw [q, z] at e; cases e
    rw [upd_ne q]; exact L.keep a u e t
/-- a cell that changes no more joins what stays -/
theorem Lay.freeze {c : Cell} {o : HO} (L : Lay K B G (.one p c :: M) H) (ht : p ∉ B.T) (ho : H p = some o) : Lay K B (upd G p o) M H := by
  have hp : p ∈ fpM (.one p c :: M) := by rw [fpM_cons]; exact List.mem_cons_self
  have nd := L.nd
  rw [fpM_cons] at nd
  have np : p ∉ fpM M := (List.nodup_cons.mp nd).1
  have h0 : B.H0 p = none := (L.new p hp).resolve_left ht
  have hM : ∀ a ∈ fpM M, a ∈ fpM (.one p c :: M) := fun a h => by rw [fpM_cons]; exact List.mem_cons_of_mem _ h
  refine ⟨fun a u e => ?_, (List.nodup_cons.mp nd).2, fun a ha => ?_, fun e he => (L.ats e (List.mem_cons_of_mem _ he)).ex (Ex.new (L.free p hp)) fun _ _ _ z => z, L.keep, fun a e => ?_, fun a ha => L.new a (hM a ha), fun a ha => ?_⟩
  · by_cases q : a = p
    · subst q; rw [upd_same] at e; cases e; exact ho
    · rw [upd_ne q] at e; exact L.sub a u e
  · have q : a ≠ p := fun q => np (q ▸ ha)
    rw [upd_ne q]; exact L.free a (hM a ha)
  · have q : a ≠ p := fun q => e (q ▸ h0)
    rw [upd_ne q]; exact L.gfix a e
  · have h := L.tin a ha
    rw [fpM_cons] at h
    rcases List.mem_cons.mp h with q | q
    · exact absurd (q ▸ ha) ht
    · exact q
end
end Ask
/-! What a reading does to plain data. -/
namespace Ask
open PySem L2

structure Slots (K : PySem.W.Frag) (G : Hp) (σ : L2.St) (s : Sl) : Prop where
  len : σ.length = s.length
  ats : ∀ (i : Nat) (d : Dt), s[i]? = some (some d) → ∃ v, σ[i]? = some (some v) ∧ Rep K G v d
section
variable {K : PySem.W.Frag} {G G' : Hp} {σ : L2.St} {s : Sl}
theorem Slots.mono (e : Ex G G') (S : Slots K G σ s) : Slots K G' σ s := ⟨S.len, fun i d h => let ⟨v, a, b⟩ := S.ats i d h; ⟨v, a, b.mono e⟩⟩
theorem Slots.set {v : V} {d : Dt} (S : Slots K G σ s) (i : Nat) (r : Rep K G v d) : Slots K G (σ.set i (some v)) (s.set i (some d)) := by
  refine ⟨by rw [List.length_set, List.length_set]; exact S.len, fun j e h => ?_⟩
  by_cases q : i = j
  · subst q
    by_cases l : i < s.length
    · rw [List.getElem?_set_self l] at h
      cases h
      exact ⟨v, List.getElem?_set_self (by rw [S.len]; exact l), r⟩
    · rw [List.getElem?_eq_none (by rw [List.length_set]; omega)] at h; cases h
  · rw [List.getElem?_set_ne q] at h
    rw [List.getElem?_set_ne q]
    exact S.ats j e h
theorem Slots.wipe1 (S : Slots K G σ s) (i : Nat) : Slots K G (σ.set i none) (s.set i none) := by
  refine ⟨by rw [List.length_set, List.length_set]; exact S.len, fun j e h => ?_⟩
  by_cases q : i = j
  · subst q
    by_cases l : i < s.length
    · rw [List.getElem?_set_self l] at h; cases h
    · rw [List.getElem?_eq_none (by rw [List.length_set]; omega)] at h; cases h
  · rw [List.getElem?_set_ne q] at h
    rw [List.getElem?_set_ne q]
    exact S.ats j e h
def wipeS (s : Sl) : List Nat → Sl
  | [] => s
  | v :: vs => (wipeS s vs).set v none
theorem Slots.wipe (S : Slots K G σ s) : ∀ vs : List Nat, Slots K G (L2.wipe σ vs) (wipeS s vs)
  | [] => S
  | v :: vs => (S.wipe vs).wipe1 v
/-- some slots forgotten -/
def Weaker (s t : Sl) : Prop := s.length = t.length ∧ ∀ (i : Nat) (d : Dt), t[i]? = some (some d) → s[i]? = some (some d)
theorem Slots.weak {t : Sl} (S : Slots K G σ s) (h : Weaker s t) : Slots K G σ t := ⟨S.len.trans h.1, fun i d q => S.ats i d (h.2 i d q)⟩
end

structure Post where
  nx : Sl → Ms → Prop
  rt : Dt → Ms → Prop
  bk : Sl → Ms → Prop := fun _ _ => False
  ct : Sl → Ms → Prop := fun _ _ => False

section
variable (K : PySem.W.Frag) (B : Fr)
def EvW (te : TE) (s : Sl) (M : Ms) (Φ : Dt → Ms → Prop) : Prop :=
  ∀ (G H : Hp) (σ : L2.St) (Q : VK), Lay K B G M H → Slots K G σ s → (∀ v d M' G' H', Lay K B G' M' H' → Ex G G' → Rep K G' v d → Φ d M' → Q v H') → te σ H Q
def EvA (ta : TA) (s : Sl) (M : Ms) (Φ : List Dt → Ms → Prop) : Prop :=
  ∀ (G H : Hp) (σ : L2.St) (Q : List V → Hp → Prop), Lay K B G M H → Slots K G σ s → (∀ vs ds M' G' H', Lay K B G' M' H' → Ex G G' → RepAll K G' vs ds → Φ ds M' → Q vs H') → ta σ H Q
def EvT (tt : TT) (s : Sl) (M : Ms) (Φ : Bool → Ms → Prop) : Prop :=
  ∀ (G H : Hp) (σ : L2.St) (Q : Bool → Hp → Prop), Lay K B G M H → Slots K G σ s → (∀ b M' G' H', Lay K B G' M' H' → Ex G G' → Φ b M' → Q b H') → tt σ H Q
def EvO (to : TO) (s : Sl) (M : Ms) (Φ : Option Int → Ms → Prop) : Prop :=
  ∀ (G H : Hp) (σ : L2.St) (Q : Option Int → Hp → Prop), Lay K B G M H → Slots K G σ s → (∀ o M' G' H', Lay K B G' M' H' → Ex G G' → Φ o M' → Q o H') → to σ H Q
/-- an operation on two values, one, many -/
def Op2 (r : R2) (x y : Dt) (M : Ms) (Φ : Dt → Ms → Prop) : Prop :=
  ∀ (G H : Hp) (v w : V) (Q : VK), Lay K B G M H → Rep K G v x → Rep K G w y → (∀ v d M' G' H', Lay K B G' M' H' → Ex G G' → Rep K G' v d → Φ d M' → Q v H') → r v w H Q
def Op1 (r : V → Hp → VK → Prop) (x : Dt) (M : Ms) (Φ : Dt → Ms → Prop) : Prop :=
  ∀ (G H : Hp) (v : V) (Q : VK), Lay K B G M H → Rep K G v x → (∀ v d M' G' H', Lay K B G' M' H' → Ex G G' → Rep K G' v d → Φ d M' → Q v H') → r v H Q
def OpN (r : List V → Hp → VK → Prop) (xs : List Dt) (M : Ms) (Φ : Dt → Ms → Prop) : Prop :=
  ∀ (G H : Hp) (vs : List V) (Q : VK), Lay K B G M H → RepAll K G vs xs → (∀ v d M' G' H', Lay K B G' M' H' → Ex G G' → Rep K G' v d → Φ d M' → Q v H') → r vs H Q
def OpM (r : V → List V → Hp → VK → Prop) (x : Dt) (xs : List Dt) (M : Ms) (Φ : Dt → Ms → Prop) : Prop :=
  ∀ (G H : Hp) (v : V) (vs : List V) (Q : VK), Lay K B G M H → Rep K G v x → RepAll K G vs xs → (∀ v d M' G' H', Lay K B G' M' H' → Ex G G' → Rep K G' v d → Φ d M' → Q v H') → r v vs H Q
def OpS (r : V → Option Int → Option Int → Hp → VK → Prop) (x : Dt) (lo hi : Option Int) (M : Ms) (Φ : Dt → Ms → Prop) : Prop :=
  ∀ (G H : Hp) (v : V) (Q : VK), Lay K B G M H → Rep K G v x → (∀ v d M' G' H', Lay K B G' M' H' → Ex G G' → Rep K G' v d → Φ d M' → Q v H') → r v lo hi H Q
def TyD (T : String) (x : Dt) (M : Ms) : Prop := ∀ (G H : Hp) (v : V), Lay K B G M H → Rep K G v x → tyV K T v H
def EndsOk (G0 : Hp) (D : Ends) (P : Post) : Prop :=
  (∀ s M G H σ, P.nx s M → Lay K B G M H → Ex G0 G → Slots K G σ s → D.nx σ H) ∧ (∀ v d M G H, P.rt d M → Lay K B G M H → Ex G0 G → Rep K G v d → D.rt v H) ∧
  (∀ s M G H σ, P.bk s M → Lay K B G M H → Ex G0 G → Slots K G σ s → D.bk σ H) ∧ (∀ s M G H σ, P.ct s M → Lay K B G M H → Ex G0 G → Slots K G σ s → D.ct σ H)
def WPs (t : TS) (P : Post) (s : Sl) (M : Ms) : Prop :=
  ∀ (D : Ends) (G H : Hp) (σ : L2.St), EndsOk K B G D P → Lay K B G M H → Slots K G σ s → t D σ H
/-- a target takes a value -/
def WPg (g : TG) (d : Dt) (s : Sl) (M : Ms) (Φ : Sl → Ms → Prop) : Prop :=
  ∀ (G H : Hp) (σ : L2.St) (v : V) (R : L2.St → Hp → Prop), Lay K B G M H → Slots K G σ s → Rep K G v d → (∀ s' M' G' H' σ', Lay K B G' M' H' → Ex G G' → Slots K G' σ' s' → Φ s' M' → R σ' H') → g v σ H R
/-- what becomes of an exception -/
def XOk (W : WX) (Ξ : Addr → Sl → Ms → Prop) : Prop := ∀ C s M G H σ, Lay K B G M H → Slots K G σ s → Ξ C s M → W (.ref C) none σ H
end
abbrev XF : Addr → Sl → Ms → Prop := fun _ _ _ => False
theorem xok0 {K : PySem.W.Frag} {B : Fr} : XOk K B (fun _ _ _ _ => False) XF := fun _ _ _ _ _ _ _ _ h => h

section
variable {K : PySem.W.Frag} {B : Fr} {s : Sl} {M : Ms} {Φ : Dt → Ms → Prop} {ta tb tc te : TE} {r : R2}
/-! ### expressions -/
theorem e_var {i : Nat} {d : Dt} (h : s[i]? = some (some d)) (k : Φ d M) : EvW K B (tVar i) s M Φ := fun G H σ Q L S q => by
  obtain ⟨v, a, b⟩ := S.ats i d h
  exact ⟨v, a, q v d M G H L (Ex.refl G) b k⟩
theorem e_int {i : Int} (k : Φ (.int i) M) : EvW K B (tC (.int i)) s M Φ := fun G H σ Q L S q => q _ _ M G H L (Ex.refl G) (.int i) k
theorem e_bl {b : Bool} (k : Φ (.bl b) M) : EvW K B (tC (.bl b)) s M Φ := fun G H σ Q L S q => q _ _ M G H L (Ex.refl G) (.bl b) k
theorem e_str {x : Str} (k : Φ (.str x) M) : EvW K B (tC (.str x)) s M Φ := fun G H σ Q L S q => q _ _ M G H L (Ex.refl G) (.str x) k
theorem e_non (k : Φ .non M) : EvW K B (tC .non) s M Φ := fun G H σ Q L S q => q _ _ M G H L (Ex.refl G) .non k
theorem e_op (h : EvW K B ta s M fun x M1 => EvW K B tb s M1 fun y M2 => Op2 K B r x y M2 Φ) : EvW K B (tOp r ta tb) s M Φ := fun G H σ Q L S q =>
  h G H σ _ L S fun v d M' G' H' L' e rv h' => h' G' H' σ _ L' (S.mono e) fun w d2 M2 G2 H2 L2 e2 rw' h2 =>
    h2 G2 H2 v w Q L2 (rv.mono e2) rw' fun v3 d3 M3 G3 H3 L3 e3 r3 q3 => q v3 d3 M3 G3 H3 L3 ((e.trans e2).trans e3) r3 q3
theorem e_un {r : V → Hp → VK → Prop} (h : EvW K B ta s M fun x M1 => Op1 K B r x M1 Φ) : EvW K B (tUn r ta) s M Φ := fun G H σ Q L S q =>
  h G H σ _ L S fun v d M' G' H' L' e rv h' => h' G' H' v Q L' rv fun v3 d3 M3 G3 H3 L3 e3 r3 q3 => q v3 d3 M3 G3 H3 L3 (e.trans e3) r3 q3
theorem a_nil {Φ : List Dt → Ms → Prop} (k : Φ [] M) : EvA K B tNil s M Φ := fun G H σ Q L S q => q _ _ M G H L (Ex.refl G) .nil k
theorem a_cons {Φ : List Dt → Ms → Prop} {tr : TA} (h : EvW K B te s M fun x M1 => EvA K B tr s M1 fun xs M2 => Φ (x :: xs) M2) : EvA K B (tCons te tr) s M Φ := fun G H σ Q L S q =>
  h G H σ _ L S fun v d M' G' H' L' e rv h' => h' G' H' σ _ L' (S.mono e) fun vs ds M2 G2 H2 L2 e2 rs h2 => q _ _ M2 G2 H2 L2 (e.trans e2) (.cons (rv.mono e2) rs) h2
theorem sl_of {n : Nat} (h : n < 16777216) : n ≤ sizeLine := by rw [sizeLine_eq]; omega
theorem sl_lt {n : Nat} (h : n < 16777216) : n < sizeLine := by rw [sizeLine_eq]; omega
/-- a list that stays as it is | that is owned -/
theorem e_lst {ta : TA} (h : EvA K B ta s M fun xs M1 => xs.length < 16777216 ∧ Φ (.lst xs) M1) : EvW K B (tLst ta) s M Φ := fun G H σ Q L S q =>
  h G H σ _ L S fun vs ds M' G' H' L' e rs h' => ⟨sl_of (by rw [rs.len]; exact h'.1), fun p hp => q _ _ M' _ _ (L'.laid hp) (e.trans (Ex.new (L'.freshG hp))) (.lst upd_same (rs.mono (Ex.new (L'.freshG hp)))) h'.2⟩
theorem e_lstM {ta : TA} (h : EvA K B ta s M fun xs M1 => xs.length < 16777216 ∧ ∀ p, p ∉ B.T → Φ (.ref p) (.one p (.lst xs) :: M1)) : EvW K B (tLst ta) s M Φ := fun G H σ Q L S q =>
  h G H σ _ L S fun vs ds M' G' H' L' e rs h' => ⟨sl_of (by rw [rs.len]; exact h'.1), fun p hp => q _ _ _ _ _ (L'.laidM (c := .lst ds) hp ⟨vs, upd_same, rs⟩) e (.ref p) (h'.2 p fun t => L'.freshM hp (L'.tin p t))⟩
theorem e_tup {ta : TA} (h : EvA K B ta s M fun xs M1 => xs.length < 16777216 ∧ Φ (.tup xs) M1) : EvW K B (tTup ta) s M Φ := fun G H σ Q L S q =>
  h G H σ _ L S fun vs ds M' G' H' L' e rs h' => ⟨sl_of (by rw [rs.len]; exact h'.1), fun p hp => q _ _ M' _ _ (L'.laid hp) (e.trans (Ex.new (L'.freshG hp))) (.tup upd_same (rs.mono (Ex.new (L'.freshG hp)))) h'.2⟩
theorem e_dnewT (h : ∀ p, p ∉ B.T → Φ (.ref p) (.one p (.dT []) :: M)) : EvW K B tDNewT s M Φ := fun G H σ Q L S q p hp =>
  q _ _ _ _ _ (L.laidM (c := .dT []) hp ⟨[], upd_same, .nil⟩) (Ex.refl G) (.ref p) (h p fun t => L.freshM hp (L.tin p t))
theorem e_dnewK (h : ∀ p, p ∉ B.T → Φ (.ref p) (.one p (.dK []) :: M)) : EvW K B tDNewK s M Φ := fun G H σ Q L S q p hp =>
  q _ _ _ _ _ (L.laidM (c := .dK []) hp ⟨[], upd_same, .nil⟩) (Ex.refl G) (.ref p) (h p fun t => L.freshM hp (L.tin p t))
theorem e_cb {r : List V → Hp → VK → Prop} {t : TA} (h : EvA K B t s M fun xs M1 => OpN K B r xs M1 Φ) : EvW K B (tCB r t) s M Φ := fun G H σ Q L S q =>
  h G H σ _ L S fun vs ds M' G' H' L' e rs h' => h' G' H' vs Q L' rs fun v3 d3 M3 G3 H3 L3 e3 r3 q3 => q v3 d3 M3 G3 H3 L3 (e.trans e3) r3 q3
theorem e_bm {T : String} {r : V → List V → Hp → VK → Prop} {t : TA} (h : EvW K B te s M fun x M1 => TyD K B T x M1 ∧ EvA K B t s M1 fun xs M2 => OpM K B r x xs M2 Φ) : EvW K B (tBM K T r te t) s M Φ := fun G H σ Q L S q =>
  h G H σ _ L S fun v d M' G' H' L' e rv h' => ⟨h'.1 G' H' v L' rv, h'.2 G' H' σ _ L' (S.mono e) fun vs ds M2 G2 H2 L2 e2 rs h2 =>
    h2 G2 H2 v vs Q L2 (rv.mono e2) rs fun v3 d3 M3 G3 H3 L3 e3 r3 q3 => q v3 d3 M3 G3 H3 L3 ((e.trans e2).trans e3) r3 q3⟩
theorem e_bm0 {T : String} {r : V → List V → Hp → VK → Prop} (h : EvW K B te s M fun x M1 => TyD K B T x M1 ∧ OpM K B r x [] M1 Φ) : EvW K B (tBM0 K T r te) s M Φ := fun G H σ Q L S q =>
  h G H σ _ L S fun v d M' G' H' L' e rv h' => ⟨h'.1 G' H' v L' rv, h'.2 G' H' v [] Q L' rv .nil fun v3 d3 M3 G3 H3 L3 e3 r3 q3 => q v3 d3 M3 G3 H3 L3 (e.trans e3) r3 q3⟩
theorem o_none {Φ : Option Int → Ms → Prop} (k : Φ none M) : EvO K B tNoPart s M Φ := fun G H σ Q L S q => q _ M G H L (Ex.refl G) k
theorem o_some {Φ : Option Int → Ms → Prop} (h : EvW K B te s M fun x M1 => ∃ i, x = .int i ∧ Φ (some i) M1) : EvO K B (tPart te) s M Φ := fun G H σ Q L S q =>
  h G H σ _ L S fun v d M' G' H' L' e rv h' => by
    obtain ⟨i, rfl, h'⟩ := h'
    exact ⟨i, rv.intOf, q _ M' G' H' L' e h'⟩
theorem e_sl {r : V → Option Int → Option Int → Hp → VK → Prop} {tl th : TO} (h : EvW K B te s M fun x M1 => EvO K B tl s M1 fun l M2 => EvO K B th s M2 fun u M3 => OpS K B r x l u M3 Φ) : EvW K B (tSl r te tl th) s M Φ := fun G H σ Q L S q =>
  h G H σ _ L S fun v d M' G' H' L' e rv h' => h' G' H' σ _ L' (S.mono e) fun l M2 G2 H2 L2 e2 h2 => h2 G2 H2 σ _ L2 (S.mono (e.trans e2)) fun u M3 G3 H3 L3 e3 h3 =>
    h3 G3 H3 v Q L3 (rv.mono (e2.trans e3)) fun v4 d4 M4 G4 H4 L4 e4 r4 q4 => q v4 d4 M4 G4 H4 L4 (((e.trans e2).trans e3).trans e4) r4 q4
theorem e_if {tt : TT} (h : EvT K B tt s M fun b M1 => (b = true → EvW K B ta s M1 Φ) ∧ (b = false → EvW K B tb s M1 Φ)) : EvW K B (tIf tt ta tb) s M Φ := fun G H σ Q L S q =>
  h G H σ _ L S fun b M' G' H' L' e h' => by
    have k : ∀ v d M2 G2 H2, Lay K B G2 M2 H2 → Ex G' G2 → Rep K G2 v d → Φ d M2 → Q v H2 := fun v d M2 G2 H2 L2 e2 => q v d M2 G2 H2 L2 (e.trans e2)
    cases b with
    | true => exact h'.1 rfl G' H' σ Q L' (S.mono e) k
    | false => exact h'.2 rfl G' H' σ Q L' (S.mono e) k
theorem e_andV (h : EvW K B ta s M fun x M1 => ∃ c, x = .bl c ∧ (c = true → EvW K B tb s M1 Φ) ∧ (c = false → Φ (.bl false) M1)) : EvW K B (tAndV ta tb) s M Φ := fun G H σ Q L S q =>
  h G H σ _ L S fun v d M' G' H' L' e rv h' => by
    obtain ⟨c, rfl, h1, h2⟩ := h'
    refine ⟨c, rv.blOf, ?_⟩
    cases c with
    | true => exact h1 rfl G' H' σ Q L' (S.mono e) fun v d M2 G2 H2 L2 e2 => q v d M2 G2 H2 L2 (e.trans e2)
    | false => exact q _ _ M' G' H' L' e (.bl false) (h2 rfl)
theorem e_orV (h : EvW K B ta s M fun x M1 => ∃ c, x = .bl c ∧ (c = false → EvW K B tb s M1 Φ) ∧ (c = true → Φ (.bl true) M1)) : EvW K B (tOrV ta tb) s M Φ := fun G H σ Q L S q =>
  h G H σ _ L S fun v d M' G' H' L' e rv h' => by
    obtain ⟨c, rfl, h1, h2⟩ := h'
    refine ⟨c, rv.blOf, ?_⟩
    cases c with
    | true => exact q _ _ M' G' H' L' e (.bl true) (h2 rfl)
    | false => exact h1 rfl G' H' σ Q L' (S.mono e) fun v d M2 G2 H2 L2 e2 => q v d M2 G2 H2 L2 (e.trans e2)
theorem e_notV (h : EvW K B ta s M fun x M1 => ∃ c, x = .bl c ∧ Φ (.bl (!c)) M1) : EvW K B (tNotV ta) s M Φ := fun G H σ Q L S q =>
  h G H σ _ L S fun v d M' G' H' L' e rv h' => by
    obtain ⟨c, rfl, h1⟩ := h'
    exact ⟨c, rv.blOf, q _ _ M' G' H' L' e (.bl _) h1⟩
theorem e_chain {r' : R2} (h : EvW K B ta s M fun x M1 => EvW K B tb s M1 fun y M2 => Op2 K B r x y M2 fun z M3 => ∃ k, z = .bl k ∧ (k = true → EvW K B tc s M3 fun w M4 => Op2 K B r' y w M4 Φ) ∧ (k = false → Φ (.bl false) M3)) :
    EvW K B (tChain r r' ta tb tc) s M Φ := fun G H σ Q L S q =>
  h G H σ _ L S fun v d M' G' H' L' e rv h' => h' G' H' σ _ L' (S.mono e) fun w d2 M2 G2 H2 L2 e2 rw' h2 =>
    h2 G2 H2 v w _ L2 (rv.mono e2) rw' fun v3 d3 M3 G3 H3 L3 e3 r3 q3 => by
      obtain ⟨k, rfl, h1, h2⟩ := q3
      refine ⟨k, r3.blOf, ?_⟩
      cases k with
      | true => exact h1 rfl G3 H3 σ _ L3 (S.mono ((e.trans e2).trans e3)) fun u d4 M4 G4 H4 L4 e4 ru h4 => h4 G4 H4 w u Q L4 (rw'.mono (e3.trans e4)) ru fun v5 d5 M5 G5 H5 L5 e5 => q v5 d5 M5 G5 H5 L5 ((((e.trans e2).trans e3).trans e4).trans e5)
      | false => exact q _ _ M3 G3 H3 L3 ((e.trans e2).trans e3) (.bl false) (h2 rfl)
/-! ### tests -/
theorem t_test {Φ : Bool → Ms → Prop} (h : EvW K B te s M fun x M1 => ∃ b, x = .bl b ∧ Φ b M1) : EvT K B (tTest te) s M Φ := fun G H σ Q L S q =>
  h G H σ _ L S fun v d M' G' H' L' e rv h' => by
    obtain ⟨b, rfl, h1⟩ := h'
    exact ⟨b, rv.blOf, q _ M' G' H' L' e h1⟩
theorem t_B {Φ : Bool → Ms → Prop} (h : EvW K B te s M fun x M1 => ∃ b, x = .bl b ∧ Φ b M1) : EvT K B (tB te) s M Φ := fun G H σ Q L S q =>
  h G H σ _ L S fun v d M' G' H' L' e rv h' => by
    obtain ⟨b, rfl, h1⟩ := h'
    exact ⟨b, rv.blOf, q _ M' G' H' L' e h1⟩
theorem t_and {Φ : Bool → Ms → Prop} {t u : TT} (h : EvT K B t s M fun b M1 => (b = true → EvT K B u s M1 Φ) ∧ (b = false → Φ false M1)) : EvT K B (tAnd t u) s M Φ := fun G H σ Q L S q =>
  h G H σ _ L S fun b M' G' H' L' e h' => by
    cases b with
    | true => exact h'.1 rfl G' H' σ Q L' (S.mono e) fun b M2 G2 H2 L2 e2 => q b M2 G2 H2 L2 (e.trans e2)
    | false => exact q _ M' G' H' L' e (h'.2 rfl)
theorem t_or {Φ : Bool → Ms → Prop} {t u : TT} (h : EvT K B t s M fun b M1 => (b = false → EvT K B u s M1 Φ) ∧ (b = true → Φ true M1)) : EvT K B (tOr t u) s M Φ := fun G H σ Q L S q =>
  h G H σ _ L S fun b M' G' H' L' e h' => by
    cases b with
    | true => exact q _ M' G' H' L' e (h'.2 rfl)
    | false => exact h'.1 rfl G' H' σ Q L' (S.mono e) fun b M2 G2 H2 L2 e2 => q b M2 G2 H2 L2 (e.trans e2)
theorem t_not {Φ : Bool → Ms → Prop} {t : TT} (h : EvT K B t s M fun b M1 => Φ (!b) M1) : EvT K B (tNot t) s M Φ := fun G H σ Q L S q =>
  h G H σ _ L S fun b M' G' H' L' e h' => q _ M' G' H' L' e h'
theorem t_yes {Φ : Bool → Ms → Prop} (k : Φ true M) : EvT K B tYes s M Φ := fun G H σ Q L S q => q _ M G H L (Ex.refl G) k
/-! ### statements -/
variable {P : Post} {t u : TS}
theorem EndsOk.mono {D : Ends} {G G' : Hp} (ok : EndsOk K B G D P) (e : Ex G G') : EndsOk K B G' D P :=
  ⟨fun s M G2 H σ k L x S => ok.1 s M G2 H σ k L (e.trans x) S, fun v d M G2 H k L x S => ok.2.1 v d M G2 H k L (e.trans x) S, fun s M G2 H σ k L x S => ok.2.2.1 s M G2 H σ k L (e.trans x) S, fun s M G2 H σ k L x S => ok.2.2.2 s M G2 H σ k L (e.trans x) S⟩
theorem w_next (k : P.nx s M) : WPs K B tNext P s M := fun D G H σ ok L S => ok.1 s M G H σ k L (Ex.refl G) S
theorem w_break (k : P.bk s M) : WPs K B tBreak P s M := fun D G H σ ok L S => ok.2.2.1 s M G H σ k L (Ex.refl G) S
theorem w_cont (k : P.ct s M) : WPs K B tCont P s M := fun D G H σ ok L S => ok.2.2.2 s M G H σ k L (Ex.refl G) S
theorem w_seq (h : WPs K B t { P with nx := WPs K B u P } s M) : WPs K B (tSeq t u) P s M := fun D G H σ ok L S =>
  h { D with nx := u D } G H σ ⟨fun s' M' G' H' σ' k L' e S' => k D G' H' σ' (ok.mono e) L' S', ok.2.1, ok.2.2.1, ok.2.2.2⟩ L S
theorem w_asg {g : TG} (h : EvW K B te s M fun d M1 => WPg K B g d s M1 P.nx) : WPs K B (tAsg te g) P s M := fun D G H σ ok L S =>
  h G H σ _ L S fun v d M' G' H' L' e rv h' => h' G' H' σ v _ L' (S.mono e) rv fun s2 M2 G2 H2 σ2 L2 e2 S2 k => ok.1 s2 M2 G2 H2 σ2 k L2 (e.trans e2) S2
theorem g_name {i : Nat} {d : Dt} {Φ : Sl → Ms → Prop} (k : Φ (s.set i (some d)) M) : WPg K B (gName i) d s M Φ := fun G H σ v R L S r q => q _ M G H _ L (Ex.refl G) (S.set i r) k
theorem w_set {i : Nat} (h : EvW K B te s M fun d M1 => P.nx (s.set i (some d)) M1) : WPs K B (tAsg te (gName i)) P s M := w_asg (fun G H σ Q L S q => h G H σ Q L S fun v d M' G' H' L' e r k => q v d M' G' H' L' e r (g_name k))
theorem w_drop (h : EvW K B te s M fun _ M1 => P.nx s M1) : WPs K B (tDrop te) P s M := fun D G H σ ok L S =>
  h G H σ _ L S fun v d M' G' H' L' e rv h' => ok.1 s M' G' H' σ h' L' e (S.mono e)
theorem w_ret (h : EvW K B te s M P.rt) : WPs K B (tRet te) P s M := fun D G H σ ok L S =>
  h G H σ _ L S fun v d M' G' H' L' e rv h' => ok.2.1 v d M' G' H' h' L' e rv
theorem w_retN (h : P.rt .non M) : WPs K B tRetN P s M := fun D G H σ ok L S => ok.2.1 .non .non M G H h L (Ex.refl G) .non
theorem w_if {c : TT} (h : EvT K B c s M fun b M1 => (b = true → WPs K B t P s M1) ∧ (b = false → WPs K B u P s M1)) : WPs K B (tIfS c t u) P s M := fun D G H σ ok L S =>
  h G H σ _ L S fun b M' G' H' L' e h' => by
    cases b with
    | true => exact h'.1 rfl D G' H' σ (ok.mono e) L' (S.mono e)
    | false => exact h'.2 rfl D G' H' σ (ok.mono e) L' (S.mono e)
theorem w_raise {W : WX} {C : Addr} {Ξ : Addr → Sl → Ms → Prop} (x : XOk K B W Ξ) (k : Ξ C s M) : WPs K B (fun _ σ H => (fun _ H Q => Q (.ref C) none H) σ H fun cls d H' => W cls d σ H') P s M := fun D G H σ ok L S => x C s M G H σ L S k
/-- consequence -/
theorem w_mono {P' : Post} (h : WPs K B t P s M) (h1 : ∀ s M, P.nx s M → P'.nx s M) (h2 : ∀ d M, P.rt d M → P'.rt d M) (h3 : ∀ s M, P.bk s M → P'.bk s M) (h4 : ∀ s M, P.ct s M → P'.ct s M) : WPs K B t P' s M := fun D G H σ ok L S =>
  h D G H σ ⟨fun s M G H σ k => ok.1 s M G H σ (h1 s M k), fun v d M G H k => ok.2.1 v d M G H (h2 d M k), fun s M G H σ k => ok.2.2.1 s M G H σ (h3 s M k), fun s M G H σ k => ok.2.2.2 s M G H σ (h4 s M k)⟩ L S
theorem w_perm {M' : Ms} (h : M.Perm M') (k : WPs K B t P s M') : WPs K B t P s M := fun D G H σ ok L S => k D G H σ ok (L.perm h) S
theorem w_weak {s' : Sl} (h : Weaker s s') (k : WPs K B t P s' M) : WPs K B t P s M := fun D G H σ ok L S => k D G H σ ok L (S.weak h)
theorem e_weak {s' : Sl} (h : Weaker s s') (k : EvW K B te s' M Φ) : EvW K B te s M Φ := fun G H σ Q L S q => k G H σ Q L (S.weak h) q
theorem e_perm {M' : Ms} (h : M.Perm M') (k : EvW K B te s M' Φ) : EvW K B te s M Φ := fun G H σ Q L S q => k G H σ Q (L.perm h) S q
theorem e_mono {Φ' : Dt → Ms → Prop} (h : EvW K B te s M Φ) (k : ∀ d M, Φ d M → Φ' d M) : EvW K B te s M Φ' := fun G H σ Q L S q => h G H σ Q L S fun v d M' G' H' L' e r p => q v d M' G' H' L' e r (k d M' p)
theorem t_mono {c : TT} {Φ Φ' : Bool → Ms → Prop} (h : EvT K B c s M Φ) (k : ∀ d M, Φ d M → Φ' d M) : EvT K B c s M Φ' := fun G H σ Q L S q => h G H σ Q L S fun d M' G' H' L' e p => q d M' G' H' L' e (k d M' p)
end
end Ask
/-! Promises over plain data, calls, loops, comprehensions. -/
namespace Ask
open PySem L2

/-- what a def does: from its arguments and the cells it is handed, what must hold so that it gives back .. | raises .. -/
abbrev FT := List Dt → Ms → (Dt → Ms → Prop) → (Addr → Ms → Prop) → Prop
def spG (K : PySem.W.Frag) (n : Nat) (F : FT) : Sp := fun vs H Q E => vs.length = n ∧ ∃ (G : Hp) (M : Ms) (ds : List Dt) (Φ : Dt → Ms → Prop) (Ξ : Addr → Ms → Prop),
  Lay K ⟨G, H, fpM M⟩ G M H ∧ RepAll K G vs ds ∧ F ds M Φ Ξ ∧
  (∀ v d M' G' H', Lay K ⟨G, H, fpM M⟩ G' M' H' → Rep K G' v d → Φ d M' → Q v H') ∧ (∀ C M' G' H', Lay K ⟨G, H, fpM M⟩ G' M' H' → Ξ C M' → E (.ref C) none H')
def startD (n : Nat) (ds : List Dt) : Sl := ds.map some ++ List.replicate (n - ds.length) none
abbrev WF (E : XK) : WX := fun cls d _ H => E cls d H
theorem slots_start {K : PySem.W.Frag} {G : Hp} {N : List Str} {vs : List V} {ds : List Dt} (r : RepAll K G vs ds) : Slots K G (L2.start N vs) (startD N.length ds) := by
  refine ⟨by simp [L2.start, startD, r.len], fun i d h => ?_⟩
  unfold startD at h
  by_cases q : i < ds.length
  · rw [List.getElem?_append_left (by simpa using q), List.getElem?_map] at h
    cases e : ds[i]? with
    | none => rw [e] at h; cases h
    | some d' =>
      rw [e] at h; cases h
      obtain ⟨v, a, b⟩ := r.get e
      refine ⟨v, ?_, b⟩
      unfold L2.start
      rw [List.getElem?_append_left (by rw [List.length_map, r.len]; exact q), List.getElem?_map, a]
      rfl
  · rw [List.getElem?_append_right (by simpa using q), List.getElem?_replicate] at h
    split at h <;> cases h
/-- a def's body, read -/
theorem enter {K : PySem.W.Frag} {n : Nat} {F : FT} {vs : List V} {H : Hp} {Q : VK} {E : XK} {t : TS} {N : List Str} (h : spG K n F vs H Q E)
    (k : ∀ (B : Fr) (M : Ms) (ds : List Dt) (Φ : Dt → Ms → Prop) (Ξ : Addr → Ms → Prop), B.T = fpM M → ds.length = n → F ds M Φ Ξ → XOk K B (WF E) (fun C _ M => Ξ C M) → WPs K B t { nx := fun _ M => Φ .non M, rt := Φ } (startD N.length ds) M) :
    t { nx := fun _ H' => Q .non H', rt := Q } (L2.start N vs) H := by
  obtain ⟨hl, G, M, ds, Φ, Ξ, L, r, f, kQ, kE⟩ := h
  refine k ⟨G, H, fpM M⟩ M ds Φ Ξ rfl (r.len.symm.trans hl) f (fun C s M' G' H' σ L' _ x => kE C M' G' H' L' x) _ G H _ ⟨fun s M' G' H' σ x L' _ _ => kQ .non .non M' G' H' L' .non x, fun v d M' G' H' x L' _ r' => kQ v d M' G' H' L' r' x, fun _ _ _ _ _ x => x.elim, fun _ _ _ _ _ x => x.elim⟩ L (slots_start r)
theorem sp_len {K : PySem.W.Frag} {n : Nat} {F : FT} {vs : List V} {H : Hp} {Q : VK} {E : XK} (h : spG K n F vs H Q E) : vs.length = n := h.1

section
variable {K : PySem.W.Frag} {B : Fr} {s : Sl} {M : Ms} {Φ : Dt → Ms → Prop} {ta tb te : TE} {n : Nat} {F : FT} {W : WX} {Ξc : Addr → Sl → Ms → Prop} {t : TA}
/-- the callee's cells Ma, the others Mr -/
theorem call_core (x : XOk K B W Ξc) {ds : List Dt} {M1 Ma Mr : Ms} (hn : ds.length = n) (hp : M1.Perm (Ma ++ Mr)) (f : F ds Ma (fun d Ma' => Φ d (Ma' ++ Mr)) (fun C Ma' => Ξc C s (Ma' ++ Mr)))
    {G H : Hp} {σ : L2.St} {vs : List V} {Q : VK} (L : Lay K B G M1 H) (S : Slots K G σ s) (r : RepAll K G vs ds) (q : ∀ v d M' G' H', Lay K B G' M' H' → Ex G G' → Rep K G' v d → Φ d M' → Q v H') :
    spG K n F vs H Q (fun cls d H => W cls d σ H) := by
  have L2 := L.perm hp
  refine ⟨r.len.trans hn, G, Ma, ds, _, _, L2.enter, r, f, fun v d M' G' H' L' r' k => q v d _ G' H' (L2.back L') (L'.grown L.sub) r' k, fun C M' G' H' L' k => x C s _ G' H' σ (L2.back L') (S.mono (L'.grown L.sub)) k⟩
theorem e_call (x : XOk K B W Ξc) (h : EvA K B t s M fun ds M1 => ds.length = n ∧ ∃ Ma Mr, M1.Perm (Ma ++ Mr) ∧ F ds Ma (fun d Ma' => Φ d (Ma' ++ Mr)) (fun C Ma' => Ξc C s (Ma' ++ Mr))) :
    EvW K B (tCallS (spG K n F) (WE W) t) s M Φ := fun G H σ Q L S q =>
  h G H σ _ L S fun vs ds M' G' H' L' e r h' => by
    obtain ⟨hn, Ma, Mr, hp, f⟩ := h'
    exact call_core x hn hp f L' (S.mono e) r fun v d M2 G2 H2 L2 e2 => q v d M2 G2 H2 L2 (e.trans e2)
/-- o.m(..), what is raised wished for at the slots -/
def tMethS (C : Addr) (m : Str) (sp : Sp) (E : L2.St → XK) (ta : TE) (t : TA) : TE := fun σ H Q => ta σ H fun x H1 => ∃ a dx fs, x = .ref a ∧ H1 a = some (.ins C dx fs) ∧ fs.lookup m = none ∧ t σ H1 fun vs H2 => sp (x :: vs) H2 Q (E σ)
def tMakeS (C : Addr) (sp : Sp) (E : L2.St → XK) (t : TA) : TE := fun σ H Q => t σ H fun vs H1 => ∀ x dx, H1 x = none → H1 dx = none → dx ≠ x →
  sp (.ref x :: vs) (upd (upd H1 dx (.own x)) x (.ins C dx [])) (fun v H2 => v = .non ∧ Q (.ref x) H2) (E σ)
/-- an instance of C with these fields -/
inductive InsD (M : Ms) (C : Addr) (fs : List Str) (ds : List Dt) : Dt → Prop
  | imm : InsD M C fs ds (.ins C fs ds)
  | one {a : Addr} : .one a (.ins C fs ds) ∈ M → InsD M C fs ds (.ref a)
theorem InsD.at {C : Addr} {fs : List Str} {ds : List Dt} {x : Dt} {G H : Hp} {v : V} (h : InsD M C fs ds x) (L : Lay K B G M H) (r : Rep K G v x) :
    ∃ a dx vs, v = .ref a ∧ H a = some (.ins C dx (fs.zip vs)) ∧ fs.length = vs.length ∧ RepAll K G vs ds := by
  cases h with
  | imm =>
    obtain ⟨a, dx, vs, rfl, e, l, t⟩ := r.insOf
    exact ⟨a, dx, vs, rfl, L.sub _ _ e, l, t⟩
  | one h =>
    obtain ⟨dx, vs, e, l, t⟩ := L.ats _ h
    exact ⟨_, dx, vs, r.refOf, e, l, t⟩
def lookF (fs : List Str) (ds : List Dt) (f : Str) : Option Dt := (fs.zip ds).lookup f
theorem lookF_some {G : Hp} {f : Str} {d : Dt} : ∀ {fs : List Str} {vs : List V} {ds : List Dt}, RepAll K G vs ds → lookF fs ds f = some d → ∃ v, (fs.zip vs).lookup f = some v ∧ Rep K G v d
  | [], _, _, _, h => by simp [lookF] at h
  | g :: fs, _, _, .nil, h => by simp [lookF] at h
  | g :: fs, v :: vs, d' :: ds, .cons r t, h => by
    unfold lookF at h
    rw [List.zip_cons_cons, List.lookup_cons] at h
    rw [List.zip_cons_cons, List.lookup_cons]
    cases e : f == g with
    | true => rw [e] at h; cases h; exact ⟨v, rfl, r⟩
    | false => rw [e] at h; exact lookF_some t h
theorem lookF_none {f : Str} : ∀ {fs : List Str} {vs : List V}, f ∉ fs → (fs.zip vs).lookup f = none
  | [], _, _ => by simp
  | g :: fs, [], _ => by simp
  | g :: fs, v :: vs, h => by
    rw [List.mem_cons, not_or] at h
    rw [List.zip_cons_cons, List.lookup_cons]
    have e : (f == g) = false := beq_eq_false_iff_ne.mpr h.1
    rw [e]
    exact lookF_none h.2
theorem e_fld {f : Str} (h : EvW K B te s M fun x M1 => ∃ C fs ds d, InsD M1 C fs ds x ∧ Cls K C ∧ NoAttr K C f ∧ lookF fs ds f = some d ∧ Φ d M1) : EvW K B (tFld K te f) s M Φ := fun G H σ Q L S q =>
  h G H σ _ L S fun v x M' G' H' L' e r h' => by
    obtain ⟨C, fs, ds, d, i, c, na, lk, k⟩ := h'
    obtain ⟨a, dx, vs, rfl, ea, l, t⟩ := i.at L' r
    obtain ⟨w, l1, l2⟩ := lookF_some t lk
    exact ⟨a, C, dx, _, w, rfl, ea, c, na, l1, q w d M' G' H' L' e l2 k⟩
theorem e_meth {C : Addr} {m : Str} (x : XOk K B W Ξc) (h : EvW K B te s M fun o M1 => ∃ fs ds, InsD M1 C fs ds o ∧ m ∉ fs ∧ EvA K B t s M1 fun as M2 => as.length + 1 = n ∧ ∃ Ma Mr, M2.Perm (Ma ++ Mr) ∧ F (o :: as) Ma (fun d Ma' => Φ d (Ma' ++ Mr)) (fun C Ma' => Ξc C s (Ma' ++ Mr))) :
    EvW K B (tMethS C m (spG K n F) (WE W) te t) s M Φ := fun G H σ Q L S q =>
  h G H σ _ L S fun v o M' G' H' L' e r h' => by
    obtain ⟨fs, ds, i, hm, h'⟩ := h'
    obtain ⟨a, dx, vs, rfl, ea, l, _⟩ := i.at L' r
    refine ⟨a, dx, _, rfl, ea, lookF_none hm, h' G' H' σ _ L' (S.mono e) fun vs as M2 G2 H2 L2 e2 rs h2 => ?_⟩
    obtain ⟨hn, Ma, Mr, hp, f⟩ := h2
    exact call_core (n := n) (F := F) (ds := o :: as) x (by simpa using hn) hp f L2 (S.mono (e.trans e2)) (.cons (r.mono e2) rs) fun v d M3 G3 H3 L3 e3 => q v d M3 G3 H3 L3 ((e.trans e2).trans e3)
/-- C(..): __init__ is handed the new instance as a cell -/
theorem e_make {C : Addr} (x : XOk K B W Ξc) (h : EvA K B t s M fun as M1 => as.length + 1 = n ∧ ∀ p, p ∉ B.T → ∃ Ma Mr, M1.Perm (Ma ++ Mr) ∧ F (.ref p :: as) (.one p (.ins C [] []) :: Ma) (fun d Ma' => d = .non ∧ Φ (.ref p) (Ma' ++ Mr)) (fun C Ma' => Ξc C s (Ma' ++ Mr))) :
    EvW K B (tMakeS C (spG K n F) (WE W) t) s M Φ := fun G H σ Q L S q =>
  h G H σ _ L S fun vs as M' G' H' L' e r h' p dx hp hdx hne => by
    obtain ⟨hn, h'⟩ := h'
    obtain ⟨Ma, Mr, pm, f⟩ := h' p fun z => L'.freshM hp (L'.tin p z)
    have Ld := L'.laid0 (o := .own p) hdx
    have hp' : upd H' dx (.own p) p = none := by rw [upd_ne hne.symm]; exact hp
    have Lx : Lay K B G' (.one p (.ins C [] []) :: M') (upd (upd H' dx (.own p)) p (.ins C dx [])) := Ld.laidM (c := .ins C [] []) hp' ⟨dx, [], upd_same, rfl, .nil⟩
    have pm' : (Ent.one p (.ins C [] []) :: M').Perm ((.one p (.ins C [] []) :: Ma) ++ Mr) := by rw [List.cons_append]; exact pm.cons _
    refine call_core (n := n) (F := F) (ds := .ref p :: as) (Φ := fun d M2 => d = .non ∧ Φ (.ref p) M2) x (by simpa using hn) pm' f Lx (S.mono e) (.cons (.ref p) r) fun v d M2 G2 H2 L2 e2 r2 k => ?_
    obtain ⟨rfl, k⟩ := k
    exact ⟨r2.nonOf, q _ _ M2 G2 H2 L2 (e.trans e2) (.ref p) k⟩
/-- .. and the new instance stays as it is -/
theorem freeze_ins {p C : Addr} {fs : List Str} {ds : List Dt} {M' : Ms} {G H : Hp} (hp : p ∉ B.T) (L : Lay K B G (.one p (.ins C fs ds) :: M') H) : ∃ G', Lay K B G' M' H ∧ Ex G G' ∧ Rep K G' (.ref p) (.ins C fs ds) := by
  obtain ⟨dx, vs, e, l, t⟩ := L.ats _ List.mem_cons_self
  have f : G p = none := L.free p (by rw [fpM_cons]; exact List.mem_cons_self)
  exact ⟨_, L.freeze hp e, Ex.new f, .ins upd_same l (t.mono (Ex.new f))⟩
theorem freeze_lst {p : Addr} {ds : List Dt} {M' : Ms} {G H : Hp} (hp : p ∉ B.T) (L : Lay K B G (.one p (.lst ds) :: M') H) : ∃ G', Lay K B G' M' H ∧ Ex G G' ∧ Rep K G' (.ref p) (.lst ds) := by
  obtain ⟨vs, e, t⟩ := L.ats _ List.mem_cons_self
  have f : G p = none := L.free p (by rw [fpM_cons]; exact List.mem_cons_self)
  exact ⟨_, L.freeze hp e, Ex.new f, .lst upd_same (t.mono (Ex.new f))⟩
/-- a value whose top is a new cell, frozen -/
def Fz (B : Fr) (Φ : Dt → Ms → Prop) (d : Dt) (M : Ms) : Prop := ∃ p M', d = .ref p ∧ p ∉ B.T ∧ ((∃ ds, M = .one p (.lst ds) :: M' ∧ Φ (.lst ds) M') ∨ ∃ C fs ds, M = .one p (.ins C fs ds) :: M' ∧ Φ (.ins C fs ds) M')
theorem e_fz (h : EvW K B te s M (Fz B Φ)) : EvW K B te s M Φ := fun G H σ Q L S q =>
  h G H σ Q L S fun v d M' G' H' L' e r k => by
    obtain ⟨p, M2, rfl, hp, ⟨ds, rfl, k⟩ | ⟨C, fs, ds, rfl, k⟩⟩ := k
    · obtain ⟨G2, L2, e2, r2⟩ := freeze_lst hp L'
      rw [r.refOf]
      exact q _ _ M2 G2 H' L2 (e.trans e2) r2 k
    · obtain ⟨G2, L2, e2, r2⟩ := freeze_ins hp L'
      rw [r.refOf]
      exact q _ _ M2 G2 H' L2 (e.trans e2) r2 k
theorem fz_lst {p : Addr} {ds : List Dt} (hp : p ∉ B.T) (k : Φ (.lst ds) M) : Fz B Φ (.ref p) (.one p (.lst ds) :: M) := ⟨p, M, rfl, hp, .inl ⟨ds, rfl, k⟩⟩
theorem fz_ins {p C : Addr} {fs : List Str} {ds : List Dt} (hp : p ∉ B.T) (k : Φ (.ins C fs ds) M) : Fz B Φ (.ref p) (.one p (.ins C fs ds) :: M) := ⟨p, M, rfl, hp, .inr ⟨C, fs, ds, rfl, k⟩⟩
end

/-! ### what a list is -/
inductive LstD (M : Ms) (ds : List Dt) : Dt → Prop
  | imm : LstD M ds (.lst ds)
  | one {a : Addr} : .one a (.lst ds) ∈ M → LstD M ds (.ref a)
  | row {a : Addr} {ps : List Addr} {rows : List (List Dt)} (i : Nat) : .many ps rows ∈ M → ps[i]? = some a → rows[i]? = some ds → LstD M ds (.ref a)
inductive SeqD (M : Ms) (ds : List Dt) : Dt → Prop
  | lst {x : Dt} : LstD M ds x → SeqD M ds x
  | scr {ns : List Int} : ds = ns.map Dt.int → SeqD M ds (.scr ns)
section
variable {K : PySem.W.Frag} {B : Fr} {s : Sl} {M : Ms} {Φ : Dt → Ms → Prop} {te : TE}
theorem LstD.at {ds : List Dt} {x : Dt} {G H : Hp} {v : V} (h : LstD M ds x) (L : Lay K B G M H) (r : Rep K G v x) : ∃ a vs, v = .ref a ∧ H a = some (.lst vs) ∧ RepAll K G vs ds := by
  cases h with
  | imm =>
    obtain ⟨a, vs, rfl, e, t⟩ := r.lstOf
    exact ⟨a, vs, rfl, L.sub _ _ e, t⟩
  | one h =>
    obtain ⟨vs, e, t⟩ := L.ats _ h
    exact ⟨_, vs, r.refOf, e, t⟩
  | row i h ha hr =>
    obtain ⟨vs, e, t⟩ := (L.ats _ h).2 i _ _ ha hr
    exact ⟨_, vs, r.refOf, e, t⟩
theorem SeqD.at {ds : List Dt} {x : Dt} {G H : Hp} {v : V} (h : SeqD M ds x) (L : Lay K B G M H) (r : Rep K G v x) : ∃ a vs, v = .ref a ∧ SqL K H a vs ∧ RepAll K G vs ds := by
  cases h with
  | lst h =>
    obtain ⟨a, vs, e, h, t⟩ := h.at L r
    exact ⟨a, vs, e, SqL.of h, t⟩
  | scr e =>
    obtain ⟨a, rfl, h⟩ := r.scrOf
    subst e
    exact ⟨a, _, rfl, sql_ex L.sub h, repAll_ints _⟩

/-! ### loops -/
variable {P : Post} {tb : TS}
def Pvs (K : PySem.W.Frag) (B : Fr) (G0 : Hp) (I : Sl → Ms → Prop) : L2.St → Hp → Prop := fun σ H => ∃ s M G, Lay K B G M H ∧ Ex G0 G ∧ Slots K G σ s ∧ I s M
theorem ends_in {D : Ends} {G0 G : Hp} {I : Sl → Ms → Prop} (ok : EndsOk K B G0 D P) (x : Ex G0 G) : EndsOk K B G { D with nx := Pvs K B G0 I, ct := Pvs K B G0 I, bk := D.nx } { P with nx := I, ct := I, bk := P.nx } :=
  ⟨fun s M G2 H σ k L e S => ⟨s, M, G2, L, x.trans e, S, k⟩, fun v d M G2 H k L e r => ok.2.1 v d M G2 H k L (x.trans e) r, fun s M G2 H σ k L e S => ok.1 s M G2 H σ k L (x.trans e) S, fun s M G2 H σ k L e S => ⟨s, M, G2, L, x.trans e, S, k⟩⟩
/-- for over a list: the word I by the turn -/
theorem w_forL {tl : TE} {g : TG} (h : EvW K B tl s M fun x M1 => ∃ ds, ∃ I : Nat → Sl → Ms → Prop, (I 0 s M1 ∧ ∀ i s' M', I i s' M' → SeqD M' ds x) ∧
      (∀ i d s' M', ds[i]? = some d → I i s' M' → WPg K B g d s' M' fun s2 M2 => WPs K B tb { P with nx := I (i + 1), ct := I (i + 1), bk := P.nx } s2 M2) ∧ (∀ s' M', I ds.length s' M' → P.nx s' M')) :
    WPs K B (tFor (iList K tl) g tb) P s M := fun D G H σ ok L S =>
  h G H σ _ L S fun v x M1 G1 H1 L1 e1 r1 h' => by
    obtain ⟨ds, I, ⟨h0, hst⟩, hs, hd⟩ := h'
    obtain ⟨a, vs, rfl, hl, _⟩ := (hst 0 _ _ h0).at L1 r1
    have ok1 := ok.mono e1
    refine ⟨a, rfl, ⟨vs, hl⟩, fun i m σ H => m = ds.length - i ∧ i ≤ ds.length ∧ Pvs K B G1 (I i) σ H, ⟨_, rfl, Nat.zero_le _, s, M1, G1, L1, Ex.refl _, S.mono e1, h0⟩, ?_⟩
    rintro i m σ2 H2 ⟨rfl, hi, s2, M2, G2, L2, x2, S2, i2⟩
    obtain ⟨a', vs2, e, hl2, t2⟩ := (hst i _ _ i2).at L2 (r1.mono x2)
    cases e
    by_cases q : i < ds.length
    · obtain ⟨v, hv, rv⟩ := t2.get (show ds[i]? = some ds[i] by simp [q])
      refine .inr ⟨⟨vs2, v, hl2, hv⟩, Pvs K B G1 (I (i + 1)), fun σ' H' p => ⟨ds.length - (i + 1), by omega, rfl, q, p⟩, fun y H' hy => ?_⟩
      obtain ⟨rfl, hy⟩ := hy
      have ey : y = v := Option.some.inj ((hy vs2 hl2).symm.trans hv)
      subst ey
      exact hs i _ s2 M2 (by simp [q]) i2 G2 _ σ2 y _ L2 S2 rv fun s3 M3 G3 H3 σ3 L3 e3 S3 k => k _ G3 H3 σ3 (ends_in ok1 (x2.trans e3)) L3 S3
    · have e : i = ds.length := by omega
      subst e
      refine .inl ⟨⟨vs2, hl2, by rw [t2.len]; exact Nat.le_refl _⟩, ok1.1 s2 M2 G2 H2 σ2 (hd s2 M2 i2) L2 x2 S2⟩
/-- for over a range -/
theorem w_forR {ta : TA} {g : TG} (h : EvA K B ta s M fun xs M1 => ∃ (n : Int) (I : Nat → Sl → Ms → Prop), xs = [.int n] ∧ (n < 4611686018427387904 ∧ -4611686018427387904 ≤ n) ∧ I 0 s M1 ∧
      (∀ (i : Nat) s' M', (i : Int) < n → I i s' M' → WPg K B g (.int (i : Int)) s' M' fun s2 M2 => WPs K B tb { P with nx := I (i + 1), ct := I (i + 1), bk := P.nx } s2 M2) ∧ (∀ s' M', I n.toNat s' M' → P.nx s' M')) :
    WPs K B (tFor (iRng1 ta) g tb) P s M := fun D G H σ ok L S =>
  h G H σ _ L S fun vs xs M1 G1 H1 L1 e1 r1 h' => by
    obtain ⟨n, I, rfl, ⟨hn, hn'⟩, h0, hs, hd⟩ := h'
    have ev : vs = [V.int n] := by
      cases r1 with | cons a b => cases b; rw [a.intOf]
    subst ev
    have ok1 := ok.mono e1
    refine ⟨n, rfl, by omega, by omega, for_range (lo := 0) (n := n.toNat) (fun i => Pvs K B G1 (I i)) ⟨s, M1, G1, L1, Ex.refl _, S.mono e1, h0⟩ (fun i σ2 H2 hi p => ?_) fun σ2 H2 p => ?_⟩
    · obtain ⟨s2, M2, G2, L2, x2, S2, i2⟩ := p
      have e0 : (0 : Int) + (i : Int) = (i : Int) := Int.zero_add _
      rw [e0]
      exact hs i s2 M2 (by omega) i2 G2 _ σ2 _ _ L2 S2 (.int _) fun s3 M3 G3 H3 σ3 L3 e3 S3 k => k _ G3 H3 σ3 (ends_in ok1 (x2.trans e3)) L3 S3
    · obtain ⟨s2, M2, G2, L2, x2, S2, i2⟩ := p
      exact ok1.1 s2 M2 G2 H2 σ2 (hd s2 M2 i2) L2 x2 S2
/-- for over a tuple -/
theorem w_forT {tl : TE} {g : TG} (h : EvW K B tl s M fun x M1 => ∃ ds, ∃ I : Nat → Sl → Ms → Prop, x = .tup ds ∧ I 0 s M1 ∧
      (∀ i d s' M', ds[i]? = some d → I i s' M' → WPg K B g d s' M' fun s2 M2 => WPs K B tb { P with nx := I (i + 1), ct := I (i + 1), bk := P.nx } s2 M2) ∧ (∀ s' M', I ds.length s' M' → P.nx s' M')) :
    WPs K B (tFor (iTup K tl) g tb) P s M := fun D G H σ ok L S =>
  h G H σ _ L S fun v x M1 G1 H1 L1 e1 r1 h' => by
    obtain ⟨ds, I, rfl, h0, hs, hd⟩ := h'
    obtain ⟨a, vs, rfl, hl, t⟩ := r1.tupOf
    have ok1 := ok.mono e1
    refine ⟨a, rfl, ⟨vs, SqT.of (L1.sub _ _ hl)⟩, for_tup (xs := vs) (fun i => Pvs K B G1 (I i)) ⟨s, M1, G1, L1, Ex.refl _, S.mono e1, h0⟩ (fun i σ2 H2 _ p => ?_) (fun i y σ2 H2 hy p => ?_) fun σ2 H2 p => ?_⟩
    · obtain ⟨s2, M2, G2, L2, x2, S2, i2⟩ := p
      exact SqT.of (L2.sub _ _ (x2 _ _ hl))
    · obtain ⟨s2, M2, G2, L2, x2, S2, i2⟩ := p
      obtain ⟨d, hd', rd⟩ := t.getV hy
      exact hs i d s2 M2 hd' i2 G2 _ σ2 y _ L2 S2 (rd.mono x2) fun s3 M3 G3 H3 σ3 L3 e3 S3 k => k _ G3 H3 σ3 (ends_in ok1 (x2.trans e3)) L3 S3
    · obtain ⟨s2, M2, G2, L2, x2, S2, i2⟩ := p
      exact ok1.1 s2 M2 G2 H2 σ2 (hd s2 M2 (by rw [← t.len]; exact i2)) L2 x2 S2
/-- while: the word I, its number falls -/
theorem w_while {c : TT} (I : Nat → Sl → Ms → Prop) (m0 : Nat) (h0 : I m0 s M)
    (hs : ∀ m s' M', I m s' M' → EvT K B c s' M' fun b M1 => (b = true → WPs K B tb { P with nx := fun s2 M2 => ∃ m', m' < m ∧ I m' s2 M2, ct := fun s2 M2 => ∃ m', m' < m ∧ I m' s2 M2, bk := P.nx } s' M1) ∧ (b = false → P.nx s' M1)) :
    WPs K B (tWhile c tb) P s M := fun D G H σ ok L S => by
  refine ⟨fun m => Pvs K B G (I m), ⟨m0, s, M, G, L, Ex.refl _, S, h0⟩, ?_⟩
  rintro m σ2 H2 ⟨s2, M2, G2, L2, x2, S2, i2⟩
  refine hs m s2 M2 i2 G2 H2 σ2 _ L2 S2 fun b M3 G3 H3 L3 e3 h3 => ?_
  cases b with
  | true =>
    refine ⟨Pvs K B G fun s4 M4 => ∃ m', m' < m ∧ I m' s4 M4, ?_, h3.1 rfl _ G3 H3 σ2 (ends_in ok (x2.trans e3)) L3 (S2.mono e3)⟩
    rintro σ4 H4 ⟨s4, M4, G4, L4, x4, S4, m', l, i4⟩
    exact ⟨m', l, s4, M4, G4, L4, x4, S4, i4⟩
  | false => exact ok.1 s2 M3 G3 H3 σ2 (h3.2 rfl) L3 (x2.trans e3) (S2.mono e3)
/-! ### comprehensions -/
theorem wipe_get {j : Nat} (σ : L2.St) : ∀ {vs : List Nat}, j ∈ vs → ∀ x, L2.wipe (σ.set j x) vs = L2.wipe σ vs
  | v :: vs, h, x => by
    show (L2.wipe (σ.set j x) vs).set v none = (L2.wipe σ vs).set v none
    by_cases q : j ∈ vs
    · rw [wipe_get σ q x]
    · have e : v = j := by
        rcases List.mem_cons.mp h with z | z
        · exact z.symm
        · exact absurd z q
      subst e
      have key : ∀ {vs : List Nat}, v ∉ vs → L2.wipe (σ.set v x) vs = (L2.wipe σ vs).set v x := by
        intro vs
        induction vs with
        | nil => intro _; rfl
        | cons w ws ih =>
          intro hn
          rw [List.mem_cons, not_or] at hn
          show (L2.wipe (σ.set v x) ws).set w none = ((L2.wipe σ ws).set w none).set v x
          rw [ih hn.2, List.set_comm _ _ hn.1]
      rw [key q, List.set_set]
theorem wipe_idem (σ : L2.St) : ∀ vs : List Nat, L2.wipe (L2.wipe σ vs) vs = L2.wipe σ vs
  | [] => rfl
  | v :: vs => by
    show (L2.wipe ((L2.wipe σ vs).set v none) vs).set v none = (L2.wipe σ vs).set v none
    by_cases q : v ∈ vs
    · rw [wipe_get _ q, wipe_idem σ vs]
    · have key : ∀ {ws : List Nat} (τ : L2.St), v ∉ ws → L2.wipe (τ.set v none) ws = (L2.wipe τ ws).set v none := by
        intro ws
        induction ws with
        | nil => intro τ _; rfl
        | cons w ws ih =>
          intro τ hn
          rw [List.mem_cons, not_or] at hn
          show (L2.wipe (τ.set v none) ws).set w none = ((L2.wipe τ ws).set w none).set v none
          rw [ih τ hn.2, List.set_comm _ _ hn.1]
      rw [key _ q, wipe_idem σ vs, List.set_set]
theorem wipe_back (σ : L2.St) {vs : List Nat} {j : Nat} (h : j ∈ vs) (x : Option V) : L2.wipe ((L2.wipe σ vs).set j x) vs = L2.wipe σ vs := by
  rw [wipe_get _ h, wipe_idem]
/-- the word of a comprehension: acc i, what is made behind i turns -/
def Cws (K : PySem.W.Frag) (B : Fr) (G0 : Hp) (p : Addr) (M : Ms) (acc : List Dt) (H : Hp) : Prop := ∃ G, Lay K B G (.one p (.lst acc) :: M) H ∧ Ex G0 G
theorem cw_turn {G0 : Hp} {p : Addr} {tt : TT} {acc acc' : List Dt} {H : Hp} {σ : L2.St} {s2 : Sl} (S : Slots K G0 σ s2) (hl : acc.length < 16777216) (c : Cws K B G0 p M acc H)
    (h : EvT K B tt s2 (.one p (.lst acc) :: M) fun b M2 => M2 = .one p (.lst acc) :: M ∧ (b = true → EvW K B te s2 (.one p (.lst acc) :: M) fun e M3 => M3 = .one p (.lst acc) :: M ∧ acc' = acc ++ [e]) ∧ (b = false → acc' = acc)) {Nx : Hp → Prop} (hN : ∀ H', Cws K B G0 p M acc' H' → Nx H') :
    tt σ H fun b H3 => if b = true then te σ H3 fun y H4 => ∃ acc, H4 p = some (.lst acc) ∧ acc.length < sizeLine ∧ Nx (upd H4 p (.lst (acc ++ [y]))) else Nx H3 := by
  obtain ⟨G, L, x⟩ := c
  refine h G H σ _ L (S.mono x) fun b M2 G2 H2 L2 e2 k => ?_
  obtain ⟨rfl, h1, h2⟩ := k
  cases b with
  | true =>
    refine h1 rfl G2 H2 σ _ L2 ((S.mono x).mono e2) fun y d M3 G3 H3 L3 e3 r3 k3 => ?_
    obtain ⟨rfl, rfl⟩ := k3
    obtain ⟨vs, hv, tv⟩ := L3.ats _ List.mem_cons_self
    refine ⟨vs, hv, sl_lt (by rw [tv.len]; exact hl), hN _ ⟨G3, L3.change (c' := .lst (acc ++ [d])) ⟨_, upd_same, tv.append (.one r3)⟩, x.trans (e2.trans e3)⟩⟩
  | false => exact hN _ ⟨G2, by rw [h2 rfl]; exact L2, x.trans e2⟩
def LcTurn (K : PySem.W.Frag) (B : Fr) (tt : TT) (te : TE) (s2 : Sl) (M1 : Ms) (acc acc' : List Dt) : Prop :=
  ∀ p, p ∉ B.T → EvT K B tt s2 (.one p (.lst acc) :: M1) fun b M2 => M2 = .one p (.lst acc) :: M1 ∧ (b = true → EvW K B te s2 (.one p (.lst acc) :: M1) fun e M3 => M3 = .one p (.lst acc) :: M1 ∧ acc' = acc ++ [e]) ∧ (b = false → acc' = acc)
/-- without a test: what each turn makes -/
theorem lc_turn {s2 : Sl} {M1 : Ms} {acc acc' : List Dt} (h : ∀ p, p ∉ B.T → EvW K B te s2 (.one p (.lst acc) :: M1) fun e M3 => M3 = .one p (.lst acc) :: M1 ∧ acc' = acc ++ [e]) : LcTurn K B tYes te s2 M1 acc acc' := fun p hp =>
  t_yes ⟨rfl, fun _ => h p hp, fun q => Bool.noConfusion q⟩
theorem lc_end {p : Addr} {G0 : Hp} {acc : List Dt} {H : Hp} {Q : VK} {M1 : Ms} (hp : p ∉ B.T) (c : Cws K B G0 p M1 acc H) (k : Fz B Φ (.ref p) (.one p (.lst acc) :: M1) ∨ Φ (.ref p) (.one p (.lst acc) :: M1))
    (q : ∀ v d M' G' H', Lay K B G' M' H' → Ex G0 G' → Rep K G' v d → Φ d M' → Q v H') : Q (.ref p) H := by
  obtain ⟨G, L, x⟩ := c
  rcases k with ⟨p', M2, e, hp', ⟨ds, e2, k⟩ | ⟨C, fs, ds, e2, k⟩⟩ | k
  · cases e; cases e2
    obtain ⟨G2, L2, x2, r2⟩ := freeze_lst hp L
    exact q _ _ _ G2 H L2 (x.trans x2) r2 k
  · cases e; cases e2
  · exact q _ _ _ G H L x (.ref p) k
theorem LstD.more {e : Ent} {ds : List Dt} {x : Dt} (h : LstD M ds x) : LstD (e :: M) ds x := by
  cases h with
  | imm => exact .imm
  | one h => exact .one (List.mem_cons_of_mem _ h)
  | row i h a b => exact .row i (List.mem_cons_of_mem _ h) a b
theorem SeqD.more {e : Ent} {ds : List Dt} {x : Dt} (h : SeqD M ds x) : SeqD (e :: M) ds x := by
  cases h with
  | lst h => exact .lst h.more
  | scr h => exact .scr h
/-- what is left to say of a comprehension: what is made turn by turn, what follows -/
def LcOk (K : PySem.W.Frag) (B : Fr) (tt : TT) (te : TE) (s : Sl) (vs : List Nat) (j : Nat) (n : Nat) (item : Nat → Dt → Prop) (M1 : Ms) (Φ : Dt → Ms → Prop) : Prop := ∃ acc : Nat → List Dt, acc 0 = [] ∧ (∀ i, i ≤ n → (acc i).length < 16777216) ∧
  (∀ i d, i < n → item i d → LcTurn K B tt te ((wipeS s vs).set j (some d)) M1 (acc i) (acc (i + 1))) ∧ ∀ p, p ∉ B.T → (Fz B Φ (.ref p) (.one p (.lst (acc n)) :: M1) ∨ Φ (.ref p) (.one p (.lst (acc n)) :: M1))
/-- over a list -/
theorem e_lcL {tl : TE} {tt : TT} {j : Nat} {vs : List Nat} (h : EvW K B tl s M fun x M1 => ∃ ds, SeqD M1 ds x ∧ j ∈ vs ∧ LcOk K B tt te s vs j ds.length (fun i d => ds[i]? = some d) M1 Φ) :
    EvW K B (tLc (iList K tl) (gName j) tt te vs) s M Φ := fun G H σ Q L S q =>
  h G H σ _ L S fun v x M1 G1 H1 L1 e1 r1 h' => by
    obtain ⟨ds, hst, hj, acc, h0, hlen, hs, hd⟩ := h'
    obtain ⟨a, xs, rfl, hx, _⟩ := hst.at L1 r1
    have S1 := S.mono e1
    refine ⟨a, rfl, ⟨xs, hx⟩, fun D hD => ⟨fun i m H => m = ds.length - i ∧ i ≤ ds.length ∧ Cws K B G1 D M1 (acc i) H, ⟨_, rfl, Nat.zero_le _, G1, ?_, Ex.refl _⟩, ?_⟩⟩
    · rw [h0]; exact L1.laidM (c := .lst []) hD ⟨[], upd_same, .nil⟩
    · have hT : D ∉ B.T := fun z => L1.freshM hD (L1.tin D z)
      rintro i m H2 ⟨rfl, hi, c⟩
      obtain ⟨G2, L2, x2⟩ := id c
      obtain ⟨a', vs2, e, hl2, t2⟩ := (hst.more (e := .one D (.lst (acc i)))).at L2 (r1.mono x2)
      cases e
      by_cases qi : i < ds.length
      · obtain ⟨v, hv, rv⟩ := t2.get (show ds[i]? = some ds[i] by simp [qi])
        refine .inr ⟨⟨vs2, v, hl2, hv⟩, Cws K B G1 D M1 (acc (i + 1)), fun H' p => ⟨ds.length - (i + 1), by omega, rfl, qi, p⟩, fun y H' hy => ?_⟩
        obtain ⟨rfl, hy⟩ := hy
        have ey : y = v := Option.some.inj ((hy vs2 hl2).symm.trans hv)
        subst ey
        have c2 : Cws K B G2 D M1 (acc i) H' := ⟨G2, L2, Ex.refl _⟩
        refine ⟨wipe_back σ hj _, cw_turn (((S1.mono x2).wipe vs).set j rv) (hlen i hi) c2 (hs i _ qi (by simp [qi]) D hT) fun H3 c3 => ?_⟩
        obtain ⟨G3, L3, x3⟩ := c3
        exact ⟨G3, L3, x2.trans x3⟩
      · have e : i = ds.length := by omega
        subst e
        exact .inl ⟨⟨vs2, hl2, by rw [t2.len]; exact Nat.le_refl _⟩, lc_end hT c (hd D hT) fun v d M' G' H' L' e' => q v d M' G' H' L' (e1.trans e')⟩
/-- over a range -/
theorem e_lcR {ta : TA} {tt : TT} {j : Nat} {vs : List Nat} (h : EvA K B ta s M fun xs M1 => ∃ n : Int, xs = [.int n] ∧ (n < 4611686018427387904 ∧ -4611686018427387904 ≤ n) ∧ j ∈ vs ∧ LcOk K B tt te s vs j n.toNat (fun i d => d = .int (i : Int)) M1 Φ) :
    EvW K B (tLc (iRng1 ta) (gName j) tt te vs) s M Φ := fun G H σ Q L S q =>
  h G H σ _ L S fun vs' x M1 G1 H1 L1 e1 r1 h' => by
    obtain ⟨n, rfl, ⟨hn, hn'⟩, hj, acc, h0, hlen, hs, hd⟩ := h'
    have ev : vs' = [V.int n] := by
      cases r1 with | cons a b => cases b; rw [a.intOf]
    subst ev
    have S1 := S.mono e1
    refine ⟨n, rfl, by omega, by omega, fun D hD => ?_⟩
    have hT : D ∉ B.T := fun z => L1.freshM hD (L1.tin D z)
    refine lc_range (lo := 0) (n := n.toNat) (fun i => Cws K B G1 D M1 (acc i)) ⟨G1, ?_, Ex.refl _⟩ (fun i H2 hi c => ?_) fun H2 c => lc_end hT c (hd D hT) fun v d M' G' H' L' e' => q v d M' G' H' L' (e1.trans e')
    · rw [h0]; exact L1.laidM (c := .lst []) hD ⟨[], upd_same, .nil⟩
    · obtain ⟨G2, L2, x2⟩ := id c
      have c2 : Cws K B G2 D M1 (acc i) H2 := ⟨G2, L2, Ex.refl _⟩
      have e0 : (0 : Int) + (i : Int) = (i : Int) := Int.zero_add _
      rw [e0]
      refine ⟨wipe_back σ hj _, cw_turn (((S1.mono x2).wipe vs).set j (.int _)) (hlen i (Nat.le_of_lt hi)) c2 (hs i _ hi rfl D hT) fun H3 c3 => ?_⟩
      obtain ⟨G3, L3, x3⟩ := c3
      exact ⟨G3, L3, x2.trans x3⟩
/-- over a tuple -/
theorem e_lcT {tl : TE} {tt : TT} {j : Nat} {vs : List Nat} (h : EvW K B tl s M fun x M1 => ∃ ds, x = .tup ds ∧ j ∈ vs ∧ LcOk K B tt te s vs j ds.length (fun i d => ds[i]? = some d) M1 Φ) :
    EvW K B (tLc (iTup K tl) (gName j) tt te vs) s M Φ := fun G H σ Q L S q =>
  h G H σ _ L S fun v x M1 G1 H1 L1 e1 r1 h' => by
    obtain ⟨ds, rfl, hj, acc, h0, hlen, hs, hd⟩ := h'
    obtain ⟨a, xs, rfl, hx, t⟩ := r1.tupOf
    have S1 := S.mono e1
    refine ⟨a, rfl, ⟨xs, SqT.of (L1.sub _ _ hx)⟩, fun D hD => ?_⟩
    have hT : D ∉ B.T := fun z => L1.freshM hD (L1.tin D z)
    have hl : xs.length = ds.length := t.len
    refine lc_tup (xs := xs) (fun i => Cws K B G1 D M1 (acc i)) ⟨G1, ?_, Ex.refl _⟩ (fun i H2 _ c => ?_) (fun i y H2 hy c => ?_) fun H2 c => lc_end hT (hl ▸ c) (hd D hT) fun v d M' G' H' L' e' => q v d M' G' H' L' (e1.trans e')
    · rw [h0]; exact L1.laidM (c := .lst []) hD ⟨[], upd_same, .nil⟩
    · obtain ⟨G2, L2, x2⟩ := c
      exact SqT.of (L2.sub _ _ (x2 _ _ hx))
    · obtain ⟨G2, L2, x2⟩ := id c
      have c2 : Cws K B G2 D M1 (acc i) H2 := ⟨G2, L2, Ex.refl _⟩
      obtain ⟨d, hd', rd⟩ := t.getV hy
      have hi : i < ds.length := (List.getElem?_eq_some_iff.mp hd').1
      refine ⟨wipe_back σ hj _, cw_turn (((S1.mono x2).wipe vs).set j (rd.mono x2)) (hlen i (Nat.le_of_lt hi)) c2 (hs i _ hi hd' D hT) fun H3 c3 => ?_⟩
      obtain ⟨G3, L3, x3⟩ := c3
      exact ⟨G3, L3, x2.trans x3⟩
/-- no test: es, item by item -/
theorem lc_all {te : TE} {vs : List Nat} {j n : Nat} {item : Nat → Dt → Prop} {M1 : Ms} (es : List Dt) (hn : es.length = n) (hz : n < 16777216)
    (hs : ∀ i d p, i < n → item i d → p ∉ B.T → EvW K B te ((wipeS s vs).set j (some d)) (.one p (.lst (es.take i)) :: M1) fun e M3 => M3 = .one p (.lst (es.take i)) :: M1 ∧ es[i]? = some e)
    (k : ∀ p, p ∉ B.T → (Fz B Φ (.ref p) (.one p (.lst es) :: M1) ∨ Φ (.ref p) (.one p (.lst es) :: M1))) : LcOk K B tYes te s vs j n item M1 Φ := by
  refine ⟨fun i => es.take i, rfl, fun i hi => by rw [List.length_take]; omega, fun i d hi hd => lc_turn fun p hp => e_mono (hs i d p hi hd hp) fun e M3 q => ⟨q.1, ?_⟩, ?_⟩
  · show es.take (i + 1) = es.take i ++ [e]
    rw [List.take_add_one, q.2]; rfl
  · show ∀ p, p ∉ B.T → (Fz B Φ (.ref p) (.one p (.lst (es.take n)) :: M1) ∨ Φ (.ref p) (.one p (.lst (es.take n)) :: M1))
    rw [← hn, List.take_length]; exact k
theorem lc_frz {p : Addr} {acc : List Dt} {M1 : Ms} (hp : p ∉ B.T) (k : Φ (.lst acc) M1) : Fz B Φ (.ref p) (.one p (.lst acc) :: M1) ∨ Φ (.ref p) (.one p (.lst acc) :: M1) := .inl (fz_lst hp k)
end
end Ask
/-! Operations on plain data. -/
namespace Ask
open PySem L2

/-! ### calls whose raising is wished for at the slots: methods, new instances -/
section
variable {X : Cx} {CX : CXT} {k : Nat} {f C : Addr} {fd : FuncData} {ps : List Str} {sp : Sp} {E : L2.St → XK} {x m : Str} {p pos apos : Pos} {e o : Expr} {es : List Expr} {ta : TE} {t : TA} {pl : Sem Bool}
theorem pe_methS (he : PE X o ta) (c : Cls X.K C) (hm : Meth X.K C m f) (F : FnOk X.prog X.w X.K X.mg X.base CX k f fd ps sp) (hr : Room k X.A) (hb : Binds X.K fd ps []) (hx : ∀ σ, PassesAt CX X σ (E σ)) (ha : PA X (e :: es) t)
    (hst : starEach (e :: es) X.env = (false, eval e X.env) :: starEach es X.env := by rfl) (hpl : (backTo pos (starEach es X.env)).any (·.1) = false := by rfl)
    (ht : eval (.Call (.Attribute o m apos) (e :: es) [] pos) X.env = (do
      let ov ← eval o X.env
      standAt apos.atName
      let (f, first) ← holding [ov] (getMethod ov m pl)
      callWith pos f first (backTo pos (starEach (e :: es) X.env)) (backToKw pos (keywordEach [] X.env))) := by rfl) : PE X (.Call (.Attribute o m apos) (e :: es) [] pos) (tMethS C m sp E ta t) := ⟨fun pins s σ H Q I h =>
  PySem.W.methodCall_KW (pl := pl) (thn (he.run pins s σ H _ I h) fun u s1 hh => by
    obtain ⟨x, H1, I1, rx, a, dx, fs, rfl, ea, l, q⟩ := hh
    obtain rfl : u = Value.ref a := rx
    refine getmeth_ok I1 ea c hm l (PySem.W.callWith_K (first := [.ref a]) (h₀ := X.base) I.ok.mod.kin hm.kp (thn (ha.run pos pins s1 σ H1 _ I1 q) fun us s2 hh2 => ?_) hst hpl)
    obtain ⟨vs, H2, I2, r, q2⟩ := hh2
    exact ⟨I2.kIn, run_fnS (us := .ref a :: us) (vs := .ref a :: vs) F hr hb (hx σ) I2 (.cons rfl r) q2⟩) ht⟩
theorem pe_meth0S (he : PE X o ta) (c : Cls X.K C) (hm : Meth X.K C m f) (F : FnOk X.prog X.w X.K X.mg X.base CX k f fd ps sp) (hr : Room k X.A) (hb : Binds X.K fd ps []) (hx : ∀ σ, PassesAt CX X σ (E σ))
    (ht : eval (.Call (.Attribute o m apos) [] [] pos) X.env = (do
      let ov ← eval o X.env
      standAt apos.atName
      let (f, first) ← holding [ov] (getMethod ov m pl)
      callWith pos f first (backTo pos (starEach [] X.env)) (backToKw pos (keywordEach [] X.env))) := by rfl) : PE X (.Call (.Attribute o m apos) [] [] pos) (tMethS C m sp E ta tNil) := ⟨fun pins s σ H Q I h =>
  PySem.W.methodCall_KW (pl := pl) (thn (he.run pins s σ H _ I h) fun u s1 hh => by
    obtain ⟨x, H1, I1, rx, a, dx, fs, rfl, ea, l, q⟩ := hh
    obtain rfl : u = Value.ref a := rx
    exact getmeth_ok I1 ea c hm l (PySem.W.callWith_K0 (first := [.ref a]) I1.kIn hm.kp (run_fnS (us := [.ref a]) (vs := [.ref a]) F hr hb (hx σ) I1 (.cons rfl .nil) q))) ht⟩
/-- the callee's wish, seen from the caller's heap -/
theorem run_makeS {pins : List (Addr × Obj)} {σ : L2.St} {H : Hp} {s : Shared} {Q : VK} {us : List Value} {vs : List V} (M : Mk X.K C f) (F : FnOk X.prog X.w X.K X.mg X.base CX k f fd ps sp) (hr : Room (k + 1) X.A) (hb : Binds X.K fd ps [])
    (hx : PassesAt CX X σ (E σ)) (I : Inv X pins σ H s) (r : Vals vs us)
    (h : ∀ x dx, H x = none → H dx = none → dx ≠ x → sp (.ref x :: vs) (upd (upd H dx (.own x)) x (.ins C dx [])) (fun v H2 => v = .non ∧ Q (.ref x) H2) (E σ)) :
    wpAny (model X.prog X.w) X.A (call (.ref C) us) (EP X pins σ Q) X.xe s := by
  have hq := h (s.heap.objs.size + 1) s.heap.objs.size (I.hok.fresh (Nat.le_succ _)) (I.hok.fresh (Nat.le_refl _)) (Nat.ne_of_lt (Nat.lt_succ_self _))
  have J := Inv.made (C := C) I
  have r2 : Vals (V.ref (s.heap.objs.size + 1) :: vs) (Value.ref (s.heap.objs.size + 1) :: us) := .cons rfl r
  have hl : ((Value.ref (s.heap.objs.size + 1) :: us) ++ []).length = ps.length := by
    rw [List.append_nil, ← r2.length]; exact F.len _ _ _ _ hq
  have b := hb _ (Value.ref (s.heap.objs.size + 1) :: us) J.kIn hl
  rw [List.append_nil] at b
  refine wpAny_call (make_map (f := f) I.kIn M.makes M.init (beq_iff_eq.mp M.fn) (codeAny_mono (F.run _ X.stack _ _ ⟨Value.ref (s.heap.objs.size + 1) :: us, []⟩ (Value.ref (s.heap.objs.size + 1) :: us) _ _ (E σ) (hr.make C us [])
    (J.env0.make C us []) b r2 hq) fun r s' hq' => ?_))
  cases r with
  | error e => exact hx pins _ _ e s' J hq'
  | ok fl =>
    cases fl with
    | ret u =>
      obtain ⟨v, H', I3, rv, rfl, q3⟩ := J.after hq'
      exact ⟨rv, ⟨V.ref (s.heap.objs.size + 1), H', I3, rfl, q3⟩⟩
    | next => exact False.elim hq'
    | brk => exact False.elim hq'
    | cont => exact False.elim hq'
theorem pe_makeS (M : Mk X.K C f) (F : FnOk X.prog X.w X.K X.mg X.base CX k f fd ps sp) (hr : Room (k + 1) X.A) (hg : Gl X x) (hm : X.mg x = some (.ref C)) (hb : Binds X.K fd ps []) (hx : ∀ σ, PassesAt CX X σ (E σ))
    (ha : PA X (e :: es) t) (hdb : (x == ("__debug__" : Str)) = false := by decide) (he : starEach (e :: es) X.env = (false, eval e X.env) :: starEach es X.env := by rfl) (hpl : (backTo pos (starEach es X.env)).any (·.1) = false := by rfl) :
    PE X (.Call (.Name x p) (e :: es) [] pos) (tMakeS C sp E t) := ⟨fun pins s σ H Q I h =>
  wpAny_Call_Name_kw (ld_glob I hg hm (PySem.W.callWith_K (h₀ := X.base) I.ok.mod.kin M.kp (thn (ha.run pos pins s σ H _ I h) fun us s1 ⟨vs, H1, I1, r, q⟩ => ⟨I1.kIn, run_makeS M F hr hb (hx σ) I1 r q⟩) he hpl) hdb)⟩
end

/-! ### named operations -/
section
variable {X : Cx}
def rAddN : R2 := rI0 fun i j => .int (i + j)
def rSubN : R2 := rI0 fun i j => .int (i - j)
def rMulN : R2 := rI CMul fun i j => .int (i * j)
def rDivN : R2 := rI CDiv fun i j => .int (i / j)
def rModN : R2 := rI (fun _ j => 0 < j) fun i j => .int (i % j)
def rLtN : R2 := rI0 fun i j => .bl (decide (i < j))
def rLeN : R2 := rI0 fun i j => .bl (decide (i ≤ j))
def rGtN : R2 := rI0 fun i j => .bl (decide (j < i))
def rGeN : R2 := rI0 fun i j => .bl (decide (j ≤ i))
def rCatS : R2 := fun x y H Q => ∃ i j, x = .str i ∧ y = .str j ∧ i.length + j.length ≤ sizeLine ∧ Q (.str (i ++ j)) H
def rPlus : R2 := fun x y H Q => rAddN x y H Q ∨ rCat x y H Q ∨ rCatS x y H Q
theorem o_plus : OpR X (binaryOp .Add) rPlus := op_add.or (op_cat.or op_add_str)
theorem o_sub : OpR X (binaryOp .Sub) rSubN := op_sub
theorem o_mul : OpR X (binaryOp .Mult) rMulN := op_mul
theorem o_div : OpR X (binaryOp .FloorDiv) rDivN := op_fdiv
theorem o_mod : OpR X (binaryOp .Mod) rModN := op_mod
theorem o_lt : OpR X (compareOp .Lt) rLtN := op_lt
theorem o_le : OpR X (compareOp .LtE) rLeN := op_le
theorem o_gt : OpR X (compareOp .Gt) rGtN := op_gt
theorem o_ge : OpR X (compareOp .GtE) rGeN := op_ge
def rIsNo : R2 := fun x y H Q => y = .non ∧ Q (.bl (decide (x = .non))) H
def rIsntNo : R2 := fun x y H Q => y = .non ∧ Q (.bl (!decide (x = .non))) H
theorem o_isN : OpR X (compareOp .Is) rIsNo := op_isN
theorem o_isntN : OpR X (compareOp .IsNot) rIsntNo := op_notN
def rLen (K : PySem.W.Frag) : List V → Hp → VK → Prop := fun xs H Q => ∃ x n, xs = [x] ∧ LenV K x H n ∧ Q (.int n) H
theorem c_len : CallR X (.builtin "len") (rLen X.K) := call_len
def rListOf (K : PySem.W.Frag) : List V → Hp → VK → Prop := fun xs H Q => ∃ p ys, xs = [.ref p] ∧ (SqL K H p ys ∨ SqT K H p ys) ∧ ∀ l, H l = none → Q (.ref l) (upd H l (.lst ys))
theorem c_list : CallR X (.type "list") (rListOf X.K) := call_list_of
def rTupOf (K : PySem.W.Frag) : List V → Hp → VK → Prop := fun xs H Q => ∃ p ys, xs = [.ref p] ∧ ((SqL K H p ys ∧ ∀ l, H l = none → Q (.ref l) (upd H l (.tup ys))) ∨ (SqT K H p ys ∧ Q (.ref p) H))
theorem c_tuple : CallR X (.type "tuple") (rTupOf X.K) := call_tuple_of
def rInt1 : List V → Hp → VK → Prop := fun xs H Q => (∃ i, xs = [.int i] ∧ Q (.int i) H) ∨ ∃ k, xs = [.bl k] ∧ Q (.int (if k then 1 else 0)) H
theorem c_int : CallR X (.type "int") rInt1 := call_int1
def rMax2 : List V → Hp → VK → Prop := fun xs H Q => ∃ i j, xs = [.int i, .int j] ∧ Q (.int (if j > i then j else i)) H
theorem c_max2 (hc : X.calm = true) : CallR X (.builtin "max") rMax2 := call_max2 hc
def rMin2 : List V → Hp → VK → Prop := fun xs H Q => ∃ i j, xs = [.int i, .int j] ∧ Q (.int (if j < i then j else i)) H
theorem c_min2 (hc : X.calm = true) : CallR X (.builtin "min") rMin2 := call_min2 hc
end

/-! ### a cell changed in its place -/
inductive Upd : Ms → Addr → Cell → Cell → Ms → Prop
  | here {a : Addr} {c c' : Cell} {M : Ms} : Upd (.one a c :: M) a c c' (.one a c' :: M)
  | there {e : Ent} {a : Addr} {c c' : Cell} {M M' : Ms} : Upd M a c c' M' → Upd (e :: M) a c c' (e :: M')
theorem Upd.perm {M M' : Ms} {a : Addr} {c c' : Cell} (u : Upd M a c c' M') : ∃ Mr, M.Perm (.one a c :: Mr) ∧ M'.Perm (.one a c' :: Mr) := by
  induction u with
  | @here a c c' M => exact ⟨M, .refl _, .refl _⟩
  | @there e a c c' M M' u ih =>
    obtain ⟨Mr, h1, h2⟩ := ih
    exact ⟨e :: Mr, (h1.cons e).trans (.swap _ _ _), (h2.cons e).trans (.swap _ _ _)⟩
inductive LUpd : Ms → Addr → List Dt → List Dt → Ms → Prop
  | one {M M' : Ms} {a : Addr} {ds ds' : List Dt} : Upd M a (.lst ds) (.lst ds') M' → LUpd M a ds ds' M'
  | row {M : Ms} {a : Addr} {ps : List Addr} {rows : List (List Dt)} {ds ds' : List Dt} (i : Nat) : ps[i]? = some a → rows[i]? = some ds → LUpd (.many ps rows :: M) a ds ds' (.many ps (rows.set i ds') :: M)
  | there {e : Ent} {a : Addr} {ds ds' : List Dt} {M M' : Ms} : LUpd M a ds ds' M' → LUpd (e :: M) a ds ds' (e :: M')
theorem LUpd.perm {M M' : Ms} {a : Addr} {ds ds' : List Dt} (u : LUpd M a ds ds' M') :
    ∃ Mr, (M.Perm (.one a (.lst ds) :: Mr) ∧ M'.Perm (.one a (.lst ds') :: Mr)) ∨ ∃ ps rows, ∃ i : Nat, ps[i]? = some a ∧ rows[i]? = some ds ∧ M.Perm (.many ps rows :: Mr) ∧ M'.Perm (.many ps (rows.set i ds') :: Mr) := by
  induction u with
  | one u =>
    obtain ⟨Mr, h⟩ := u.perm
    exact ⟨Mr, .inl h⟩
  | row i h1 h2 => exact ⟨_, .inr ⟨_, _, i, h1, h2, .refl _, .refl _⟩⟩
  | @there e a ds ds' M M' u ih =>
    obtain ⟨Mr, ⟨h1, h2⟩ | ⟨ps, rows, i, ha, hr, h1, h2⟩⟩ := ih
    · exact ⟨e :: Mr, .inl ⟨(h1.cons e).trans (.swap _ _ _), (h2.cons e).trans (.swap _ _ _)⟩⟩
    · exact ⟨e :: Mr, .inr ⟨ps, rows, i, ha, hr, (h1.cons e).trans (.swap _ _ _), (h2.cons e).trans (.swap _ _ _)⟩⟩
section
variable {K : PySem.W.Frag} {B : Fr} {s : Sl} {M M' : Ms} {Φ : Dt → Ms → Prop} {G H : Hp} {ds ds' : List Dt} {p : Addr}
theorem Lay.upd {c c' : Cell} {o : HO} (L : Lay K B G M H) (u : Upd M p c c' M') (hc : CellAt K G (L2.upd H p o) p c') : Lay K B G M' (L2.upd H p o) := by
  obtain ⟨Mr, h1, h2⟩ := u.perm
  exact ((L.perm h1).change hc).perm h2.symm
theorem LUpd.at (L : Lay K B G M H) (u : LUpd M p ds ds' M') : ∃ vs, H p = some (.lst vs) ∧ RepAll K G vs ds := by
  obtain ⟨Mr, ⟨h1, h2⟩ | ⟨ps, rows, i, ha, hr, h1, h2⟩⟩ := u.perm
  · obtain ⟨vs, e, t⟩ := (L.perm h1).ats _ List.mem_cons_self
    exact ⟨vs, e, t⟩
  · obtain ⟨vs, e, t⟩ := ((L.perm h1).ats _ List.mem_cons_self).2 i _ _ ha hr
    exact ⟨vs, e, t⟩
theorem Lay.updL {vs : List V} (L : Lay K B G M H) (u : LUpd M p ds ds' M') (t : RepAll K G vs ds') : Lay K B G M' (L2.upd H p (.lst vs)) := by
  have hc : CellAt K G (L2.upd H p (.lst vs)) p (.lst ds') := ⟨vs, upd_same, t⟩
  obtain ⟨Mr, ⟨h1, h2⟩ | ⟨ps, rows, i, ha, hr, h1, h2⟩⟩ := u.perm
  · exact ((L.perm h1).change hc).perm h2.symm
  · exact ((L.perm h1).changeRow ha hc).perm h2.symm

/-! ### numbers, texts, lists -/
variable {i j : Int} {x y : Dt}
theorem p_int {g : Int → Int → Int} (k : Φ (.int (g i j)) M) : Op2 K B (rI0 fun i j => .int (g i j)) (.int i) (.int j) M Φ := fun G H v w Q L r1 r2 q =>
  ⟨i, j, r1.intOf, r2.intOf, q _ _ M G H L (Ex.refl G) (.int _) k⟩
theorem p_add (k : Φ (.int (i + j)) M) : Op2 K B rPlus (.int i) (.int j) M Φ := fun G H v w Q L r1 r2 q => .inl ⟨i, j, r1.intOf, r2.intOf, q _ _ M G H L (Ex.refl G) (.int _) k⟩
theorem p_sub (k : Φ (.int (i - j)) M) : Op2 K B rSubN (.int i) (.int j) M Φ := fun G H v w Q L r1 r2 q => ⟨i, j, r1.intOf, r2.intOf, q _ _ M G H L (Ex.refl G) (.int _) k⟩
theorem p_mul (h : (-18446744073709551616 < i ∧ i < 18446744073709551616) ∨ (-18446744073709551616 < j ∧ j < 18446744073709551616)) (k : Φ (.int (i * j)) M) : Op2 K B rMulN (.int i) (.int j) M Φ := fun G H v w Q L r1 r2 q =>
  ⟨i, j, r1.intOf, r2.intOf, h, q _ _ M G H L (Ex.refl G) (.int _) k⟩
theorem p_div (h : 0 < j ∧ j < 1073741824) (k : Φ (.int (i / j)) M) : Op2 K B rDivN (.int i) (.int j) M Φ := fun G H v w Q L r1 r2 q => ⟨i, j, r1.intOf, r2.intOf, h, q _ _ M G H L (Ex.refl G) (.int _) k⟩
theorem p_mod (h : 0 < j) (k : Φ (.int (i % j)) M) : Op2 K B rModN (.int i) (.int j) M Φ := fun G H v w Q L r1 r2 q => ⟨i, j, r1.intOf, r2.intOf, h, q _ _ M G H L (Ex.refl G) (.int _) k⟩
theorem p_lt (k : Φ (.bl (decide (i < j))) M) : Op2 K B rLtN (.int i) (.int j) M Φ := fun G H v w Q L r1 r2 q => ⟨i, j, r1.intOf, r2.intOf, q _ _ M G H L (Ex.refl G) (.bl _) k⟩
theorem p_le (k : Φ (.bl (decide (i ≤ j))) M) : Op2 K B rLeN (.int i) (.int j) M Φ := fun G H v w Q L r1 r2 q => ⟨i, j, r1.intOf, r2.intOf, q _ _ M G H L (Ex.refl G) (.bl _) k⟩
theorem p_gt (k : Φ (.bl (decide (j < i))) M) : Op2 K B rGtN (.int i) (.int j) M Φ := fun G H v w Q L r1 r2 q => ⟨i, j, r1.intOf, r2.intOf, q _ _ M G H L (Ex.refl G) (.bl _) k⟩
theorem p_ge (k : Φ (.bl (decide (j ≤ i))) M) : Op2 K B rGeN (.int i) (.int j) M Φ := fun G H v w Q L r1 r2 q => ⟨i, j, r1.intOf, r2.intOf, q _ _ M G H L (Ex.refl G) (.bl _) k⟩
theorem p_catS {a b : Str} (h : a.length + b.length < 16777216) (k : Φ (.str (a ++ b)) M) : Op2 K B rPlus (.str a) (.str b) M Φ := fun G H v w Q L r1 r2 q => .inr (.inr ⟨a, b, r1.strOf, r2.strOf, sl_of h, q _ _ M G H L (Ex.refl G) (.str _) k⟩)
theorem p_cat {ds es : List Dt} (h1 : LstD M ds x) (h2 : LstD M es y) (hz : ds.length + es.length < 16777216) (k : ∀ p, p ∉ B.T → (Fz B Φ (.ref p) (.one p (.lst (ds ++ es)) :: M) ∨ Φ (.ref p) (.one p (.lst (ds ++ es)) :: M))) : Op2 K B rPlus x y M Φ := fun G H v w Q L r1 r2 q => by
  obtain ⟨a, vs, rfl, e1, t1⟩ := h1.at L r1
  obtain ⟨b, ws, rfl, e2, t2⟩ := h2.at L r2
  refine .inr (.inl ⟨a, b, vs, ws, rfl, rfl, e1, e2, sl_of (by rw [t1.len, t2.len]; exact hz), fun p hp => ?_⟩)
  exact lc_end (fun z => L.freshM hp (L.tin p z)) ⟨G, L.laidM (c := .lst (ds ++ es)) hp ⟨_, upd_same, t1.append t2⟩, Ex.refl G⟩ (k p fun z => L.freshM hp (L.tin p z)) q
theorem fz {B : Fr} {ds : List Dt} {M : Ms} (k : Φ (.lst ds) M) : ∀ p, p ∉ B.T → (Fz B Φ (.ref p) (.one p (.lst ds) :: M) ∨ Φ (.ref p) (.one p (.lst ds) :: M)) := fun p hp => .inl (fz_lst hp k)
theorem fzM {B : Fr} {ds : List Dt} {M : Ms} (k : ∀ p, p ∉ B.T → Φ (.ref p) (.one p (.lst ds) :: M)) : ∀ p, p ∉ B.T → (Fz B Φ (.ref p) (.one p (.lst ds) :: M) ∨ Φ (.ref p) (.one p (.lst ds) :: M)) := fun p hp => .inr (k p hp)
theorem isNon (r : Rep K G v x) : decide (v = V.non) = (match x with | .non => true | _ => false) := by
  cases r <;> rfl
theorem p_isN_yes (k : Φ (.bl true) M) : Op2 K B rIsNo .non .non M Φ := fun G H v w Q L r1 r2 q => ⟨r2.nonOf, by rw [r1.nonOf]; exact q _ _ M G H L (Ex.refl G) (.bl true) k⟩
theorem p_isN_no (h : x ≠ .non) (k : Φ (.bl false) M) : Op2 K B rIsNo x .non M Φ := fun G H v w Q L r1 r2 q => ⟨r2.nonOf, by
  rw [isNon r1]
  cases x <;> first | exact absurd rfl h | exact q _ _ M G H L (Ex.refl G) (.bl false) k⟩
theorem p_isntN_yes (k : Φ (.bl false) M) : Op2 K B rIsntNo .non .non M Φ := fun G H v w Q L r1 r2 q => ⟨r2.nonOf, by rw [r1.nonOf]; exact q _ _ M G H L (Ex.refl G) (.bl false) k⟩
theorem p_isntN_no (h : x ≠ .non) (k : Φ (.bl true) M) : Op2 K B rIsntNo x .non M Φ := fun G H v w Q L r1 r2 q => ⟨r2.nonOf, by
  rw [isNon r1]
  cases x <;> first | exact absurd rfl h | exact q _ _ M G H L (Ex.refl G) (.bl true) k⟩

/-! ### items -/
theorem atI_rep {vs : List V} {d : Dt} (t : RepAll K G vs ds) (h : atI ds i = some d) : ∃ v, atI vs i = some v ∧ Rep K G v d := by
  unfold atI at h ⊢
  rw [t.len]
  cases e : ixN ds.length i with
  | none => rw [e] at h; cases h
  | some j => rw [e] at h; exact t.get h
theorem at_nat {d : Dt} (h0 : 0 ≤ i) (h : ds[i.toNat]? = some d) : atI ds i = some d := by
  have := atI_nat h
  rwa [Int.toNat_of_nonneg h0] at this
theorem at_neg1 {d : Dt} (h : ds ≠ []) (e : ds.getLast h = d) : atI ds (-1) = some d := by
  have := atI_last ds.dropLast (ds.getLast h)
  rw [List.dropLast_concat_getLast h] at this
  rw [this, e]
theorem p_ixL {d : Dt} (h : SeqD M ds x) (ha : atI ds i = some d) (k : Φ d M) : Op2 K B (rIx K) x (.int i) M Φ := fun G H v w Q L r1 r2 q => by
  obtain ⟨a, vs, rfl, e1, t1⟩ := h.at L r1
  obtain ⟨u, hu, ru⟩ := atI_rep t1 ha
  exact .inl ⟨a, vs, i, u, rfl, r2.intOf, e1, hu, q _ _ M G H L (Ex.refl G) ru k⟩
theorem p_ixT {d : Dt} (ha : atI ds i = some d) (k : Φ d M) : Op2 K B (rIx K) (.tup ds) (.int i) M Φ := fun G H v w Q L r1 r2 q => by
  obtain ⟨a, vs, rfl, e1, t1⟩ := r1.tupOf
  obtain ⟨u, hu, ru⟩ := atI_rep t1 ha
  exact .inr (.inl ⟨a, vs, i, u, rfl, r2.intOf, SqT.of (L.sub _ _ e1), hu, q _ _ M G H L (Ex.refl G) ru k⟩)
theorem p_ixS {z : Str} {c : Nat} (hz : z.length < 16777216) (ha : atI z.cps.toList i = some c) (k : Φ (.str ⟨#[c]⟩) M) : Op2 K B (rIx K) (.str z) (.int i) M Φ := fun G H v w Q L r1 r2 q =>
  .inr (.inr ⟨z, i, c, r1.strOf, r2.intOf, sl_of hz, ha, q _ _ M G H L (Ex.refl G) (.str _) k⟩)
/-- xs[i] = e -/
theorem g_sub {to ti : TE} {d : Dt} {Ψ : Sl → Ms → Prop} (h : EvW K B to s M fun o M1 => EvW K B ti s M1 fun z M2 => ∃ a i n ds M3, o = .ref a ∧ z = .int i ∧ LUpd M2 a ds (ds.set n d) M3 ∧ ixN ds.length i = some n ∧ Ψ s M3) : WPg K B (gSub to ti rSetL) d s M Ψ := fun G H σ v R L S r q =>
  h G H σ _ L S fun vo o M1 G1 H1 L1 e1 ro h1 => h1 G1 H1 σ _ L1 (S.mono e1) fun vi z M2 G2 H2 L2 e2 ri h2 => by
    obtain ⟨a, i, n, ds, M3, rfl, rfl, u, hn, k⟩ := h2
    obtain ⟨vs, e, t⟩ := u.at L2
    exact ⟨a, vs, i, n, (ro.mono e2).refOf, ri.intOf, e, by rw [t.len]; exact hn, q s M3 G2 _ σ (L2.updL u (t.set ((r.mono e1).mono e2) n)) (e1.trans e2) (S.mono (e1.trans e2)) k⟩
/-! ### list methods -/
theorem ty_list (h : SeqD M ds x) : TyD K B "list" x M := fun G H v L r => by
  obtain ⟨a, vs, rfl, e, _⟩ := h.at L r
  exact .inl ⟨rfl, vs, e⟩
theorem m_append {d : Dt} (u : LUpd M p ds (ds ++ [d]) M') (hz : ds.length < 16777216) (k : Φ .non M') : OpM K B rAppend (.ref p) [d] M Φ := fun G H v vs Q L r rs q => by
  obtain ⟨ws, e, t⟩ := u.at L
  cases rs with
  | cons r1 r0 =>
    cases r0
    exact ⟨p, ws, _, r.refOf, rfl, e, sl_lt (by rw [t.len]; exact hz), q _ _ M' G _ (L.updL u (t.append (.one r1))) (Ex.refl G) .non k⟩
theorem m_clear (u : LUpd M p ds [] M') (k : Φ .non M') : OpM K B rClear (.ref p) [] M Φ := fun G H v vs Q L r rs q => by
  obtain ⟨ws, e, t⟩ := u.at L
  cases rs
  exact ⟨p, ws, r.refOf, rfl, e, q _ _ M' G _ (L.updL u .nil) (Ex.refl G) .non k⟩
/-! ### built-in calls -/
theorem c_lenL (h : SeqD M ds x) (k : Φ (.int (ds.length : Nat)) M) : OpN K B (rLen K) [x] M Φ := fun G H vs Q L rs q => by
  cases rs with
  | cons r1 r0 =>
    cases r0
    obtain ⟨a, ws, rfl, e, t⟩ := h.at L r1
    exact ⟨_, ds.length, rfl, .inl ⟨ws, e, t.len.symm⟩, q _ _ M G H L (Ex.refl G) (.int _) k⟩
theorem c_lenT (k : Φ (.int (ds.length : Nat)) M) : OpN K B (rLen K) [.tup ds] M Φ := fun G H vs Q L rs q => by
  cases rs with
  | cons r1 r0 =>
    cases r0
    obtain ⟨a, ws, rfl, e, t⟩ := r1.tupOf
    exact ⟨_, ds.length, rfl, .inr ⟨ws, SqT.of (L.sub _ _ e), t.len.symm⟩, q _ _ M G H L (Ex.refl G) (.int _) k⟩
theorem c_lenS {z : Str} (hz : z.length < 16777216) (k : Φ (.int (z.length : Nat)) M) : OpN K B (rLen K) [.str z] M Φ := fun G H vs Q L rs q => by
  cases rs with
  | cons r1 r0 =>
    cases r0
    rw [r1.strOf]
    exact ⟨_, z.length, rfl, ⟨sl_of hz, rfl⟩, q _ _ M G H L (Ex.refl G) (.int _) k⟩
theorem c_listL (h : SeqD M ds x) (k : ∀ p, p ∉ B.T → (Fz B Φ (.ref p) (.one p (.lst ds) :: M) ∨ Φ (.ref p) (.one p (.lst ds) :: M))) : OpN K B (rListOf K) [x] M Φ := fun G H vs Q L rs q => by
  cases rs with
  | cons r1 r0 =>
    cases r0
    obtain ⟨a, ws, rfl, e, t⟩ := h.at L r1
    exact ⟨a, ws, rfl, .inl e, fun l hl => lc_end (fun z => L.freshM hl (L.tin l z)) ⟨G, L.laidM (c := .lst ds) hl ⟨_, upd_same, t⟩, Ex.refl G⟩ (k l fun z => L.freshM hl (L.tin l z)) q⟩
theorem c_listT (k : ∀ p, p ∉ B.T → (Fz B Φ (.ref p) (.one p (.lst ds) :: M) ∨ Φ (.ref p) (.one p (.lst ds) :: M))) : OpN K B (rListOf K) [.tup ds] M Φ := fun G H vs Q L rs q => by
  cases rs with
  | cons r1 r0 =>
    cases r0
    obtain ⟨a, ws, rfl, e, t⟩ := r1.tupOf
    exact ⟨a, ws, rfl, .inr (SqT.of (L.sub _ _ e)), fun l hl => lc_end (fun z => L.freshM hl (L.tin l z)) ⟨G, L.laidM (c := .lst ds) hl ⟨_, upd_same, t⟩, Ex.refl G⟩ (k l fun z => L.freshM hl (L.tin l z)) q⟩
theorem c_tupL (h : SeqD M ds x) (k : Φ (.tup ds) M) : OpN K B (rTupOf K) [x] M Φ := fun G H vs Q L rs q => by
  cases rs with
  | cons r1 r0 =>
    cases r0
    obtain ⟨a, ws, rfl, e, t⟩ := h.at L r1
    exact ⟨a, ws, rfl, .inl ⟨e, fun l hl => q _ _ M _ _ (L.laid hl) (Ex.new (L.freshG hl)) (.tup upd_same (t.mono (Ex.new (L.freshG hl)))) k⟩⟩
theorem c_intI (k : Φ (.int i) M) : OpN K B rInt1 [.int i] M Φ := fun G H vs Q L rs q => by
  cases rs with
  | cons r1 r0 => cases r0; rw [r1.intOf]; exact .inl ⟨i, rfl, q _ _ M G H L (Ex.refl G) (.int _) k⟩
theorem c_intB {b : Bool} (k : Φ (.int (if b then 1 else 0)) M) : OpN K B rInt1 [.bl b] M Φ := fun G H vs Q L rs q => by
  cases rs with
  | cons r1 r0 => cases r0; rw [r1.blOf]; exact .inr ⟨b, rfl, q _ _ M G H L (Ex.refl G) (.int _) k⟩
theorem c_max (k : Φ (.int (if j > i then j else i)) M) : OpN K B rMax2 [.int i, .int j] M Φ := fun G H vs Q L rs q => by
  cases rs with
  | cons r1 r0 => cases r0 with | cons r2 r0 => cases r0; rw [r1.intOf, r2.intOf]; exact ⟨i, j, rfl, q _ _ M G H L (Ex.refl G) (.int _) k⟩
theorem c_min (k : Φ (.int (if j < i then j else i)) M) : OpN K B rMin2 [.int i, .int j] M Φ := fun G H vs Q L rs q => by
  cases rs with
  | cons r1 r0 => cases r0 with | cons r2 r0 => cases r0; rw [r1.intOf, r2.intOf]; exact ⟨i, j, rfl, q _ _ M G H L (Ex.refl G) (.int _) k⟩
end
end Ask
/-! Equality, membership, kinds of plain data. -/
namespace Ask
open PySem L2

/-! data that two == may look at: of like kinds at like places -/
mutual
def toPy : Dt → PyData
  | .bl b => .bool b
  | .int i => .int i
  | .str s => .str s
  | .lst ds => .list (toPys ds)
  | .tup ds => .tuple (toPys ds)
  | _ => .none
def toPys : List Dt → List PyData
  | [] => []
  | d :: ds => toPy d :: toPys ds
end
mutual
def isDat : Dt → Bool
  | .non => true
  | .bl b => true
  | .int i => true
  | .str s => PyData.strOk s
  | .lst ds => isDats ds
  | .tup ds => isDats ds
  | _ => false
def isDats : List Dt → Bool
  | [] => true
  | d :: ds => isDat d && isDats ds
end
mutual
def deep : Dt → Nat
  | .lst ds => deeps ds + 1
  | .tup ds => deeps ds + 1
  | _ => 0
def deeps : List Dt → Nat
  | [] => 0
  | d :: ds => max (deep d) (deeps ds)
end
mutual
def alike : Dt → Dt → Bool
  | .non, .non => true
  | .bl _, .bl _ => true
  | .int _, .int _ => true
  | .str _, .str _ => true
  | .lst ds, .lst es => alikes ds es
  | .tup ds, .tup es => alikes ds es
  | .non, .bl _ | .non, .int _ | .non, .str _ | .non, .lst _ | .non, .tup _ => true
  | .bl _, .non | .int _, .non | .str _, .non | .lst _, .non | .tup _, .non => true
  | _, _ => false
def alikes : List Dt → List Dt → Bool
  | [], _ => true
  | _ :: _, [] => true
  | d :: ds, e :: es => alike d e && alikes ds es
end
mutual
theorem eqv_alike : ∀ (d e : Dt), alike d e = true → (PyData.eqv (toPy d) (toPy e) = true ↔ d = e)
  | .non, .non, _ => by simp [toPy, PyData.eqv]
  | .bl a, .bl b, _ => by simp [toPy, PyData.eqv]
  | .int a, .int b, _ => by simp [toPy, PyData.eqv]
  | .str a, .str b, _ => by simp [toPy, PyData.eqv]
  | .lst ds, .lst es, h => by
    have := eqv_alikes ds es (by simpa [alike] using h)
    simp only [toPy, PyData.eqv, this, Dt.lst.injEq]
  | .tup ds, .tup es, h => by
    have := eqv_alikes ds es (by simpa [alike] using h)
    simp only [toPy, PyData.eqv, this, Dt.tup.injEq]
  | .non, .bl _, _ | .non, .int _, _ | .non, .str _, _ | .non, .lst _, _ | .non, .tup _, _ => by simp [toPy, PyData.eqv]
  | .bl _, .non, _ | .int _, .non, _ | .str _, .non, _ | .lst _, .non, _ | .tup _, .non, _ => by simp [toPy, PyData.eqv]
  | .ref _, _, h | .ty _, _, h | .scr _, _, h | .ins _ _ _, _, h => by simp [alike] at h
  | .non, .ref _, h | .non, .ty _, h | .non, .scr _, h | .non, .ins _ _ _, h => by simp [alike] at h
  | .bl _, .ref _, h | .bl _, .ty _, h | .bl _, .scr _, h | .bl _, .ins _ _ _, h | .bl _, .int _, h | .bl _, .str _, h | .bl _, .lst _, h | .bl _, .tup _, h => by simp [alike] at h
  | .int _, .ref _, h | .int _, .ty _, h | .int _, .scr _, h | .int _, .ins _ _ _, h | .int _, .bl _, h | .int _, .str _, h | .int _, .lst _, h | .int _, .tup _, h => by simp [alike] at h
  | .str _, .ref _, h | .str _, .ty _, h | .str _, .scr _, h | .str _, .ins _ _ _, h | .str _, .bl _, h | .str _, .int _, h | .str _, .lst _, h | .str _, .tup _, h => by simp [alike] at h
  | .lst _, .ref _, h | .lst _, .ty _, h | .lst _, .scr _, h | .lst _, .ins _ _ _, h | .lst _, .bl _, h | .lst _, .int _, h | .lst _, .str _, h | .lst _, .tup _, h => by simp [alike] at h
  | .tup _, .ref _, h | .tup _, .ty _, h | .tup _, .scr _, h | .tup _, .ins _ _ _, h | .tup _, .bl _, h | .tup _, .int _, h | .tup _, .str _, h | .tup _, .lst _, h => by simp [alike] at h
theorem eqv_alikes : ∀ (ds es : List Dt), alikes ds es = true → (PyData.eqvAll (toPys ds) (toPys es) = true ↔ ds = es)
  | [], [], _ => by simp [toPys, PyData.eqvAll]
  | [], e :: es, _ => by simp [toPys, PyData.eqvAll]
  | d :: ds, [], _ => by simp [toPys, PyData.eqvAll]
  | d :: ds, e :: es, h => by
    have h' : alike d e = true ∧ alikes ds es = true := by simpa [alikes] using h
    simp only [toPys, PyData.eqvAll, Bool.and_eq_true, eqv_alike d e h'.1, eqv_alikes ds es h'.2, List.cons.injEq]
end
mutual
theorem dp_of {K : PySem.W.Frag} {G : Hp} : ∀ (d : Dt) (v : V), Rep K G v d → isDat d = true → Dp K G v (toPy d)
  | .non, v, r, _ => by rw [r.nonOf]; simp only [toPy]; exact .non
  | .bl b, v, r, _ => by rw [r.blOf]; simp only [toPy]; exact .bl b
  | .int i, v, r, _ => by rw [r.intOf]; simp only [toPy]; exact .int i
  | .str s, v, r, _ => by rw [r.strOf]; simp only [toPy]; exact .str s
  | .lst ds, v, r, h => by
    obtain ⟨a, vs, rfl, e, t⟩ := r.lstOf
    simp only [toPy]
    exact .lst (SqL.of e) (dps_of ds vs t (by simpa [isDat] using h))
  | .tup ds, v, r, h => by
    obtain ⟨a, vs, rfl, e, t⟩ := r.tupOf
    simp only [toPy]
    exact .tup (SqT.of e) (dps_of ds vs t (by simpa [isDat] using h))
  | .ref _, _, _, h | .ty _, _, _, h | .scr _, _, _, h | .ins _ _ _, _, _, h => by simp [isDat] at h
theorem dps_of {K : PySem.W.Frag} {G : Hp} : ∀ (ds : List Dt) (vs : List V), RepAll K G vs ds → isDats ds = true → DpAll K G vs (toPys ds)
  | [], _, .nil, _ => by simp only [toPys]; exact .nil
  | d :: ds, v :: vs, .cons r t, h => by
    have h' : isDat d = true ∧ isDats ds = true := by simpa [isDats] using h
    simp only [toPys]
    exact .cons (dp_of d v r h'.1) (dps_of ds vs t h'.2)
end
mutual
theorem lay_of : ∀ (d : Dt), isDat d = true → (toPy d).canLay0 = true
  | .non, _ | .bl _, _ | .int _, _ => by simp [toPy, PyData.canLay0]
  | .str s, h => by simpa [toPy, PyData.canLay0, isDat] using h
  | .lst ds, h => by simp only [toPy, PyData.canLay0]; exact lays_of ds (by simpa [isDat] using h)
  | .tup ds, h => by simp only [toPy, PyData.canLay0]; exact lays_of ds (by simpa [isDat] using h)
  | .ref _, h | .ty _, h | .scr _, h | .ins _ _ _, h => by simp [isDat] at h
theorem lays_of : ∀ (ds : List Dt), isDats ds = true → PyData.canLayAll0 (toPys ds) = true
  | [], _ => by simp [toPys, PyData.canLayAll0]
  | d :: ds, h => by
    have h' : isDat d = true ∧ isDats ds = true := by simpa [isDats] using h
    simp [toPys, PyData.canLayAll0, lay_of d h'.1, lays_of ds h'.2]
end
mutual
theorem deep_of : ∀ (d : Dt), (toPy d).depth = deep d
  | .non | .bl _ | .int _ | .str _ | .ref _ | .ty _ | .scr _ | .ins _ _ _ => by simp [toPy, PyData.depth, deep]
  | .lst ds => by simp only [toPy, PyData.depth, deep, deeps_of ds]
  | .tup ds => by simp only [toPy, PyData.depth, deep, deeps_of ds]
theorem deeps_of : ∀ (ds : List Dt), PyData.depthAll (toPys ds) = deeps ds
  | [] => by simp [toPys, PyData.depthAll, deeps]
  | d :: ds => by simp only [toPys, PyData.depthAll, deeps, deep_of d, deeps_of ds]
end
theorem shaped_of {d : Dt} (hd : isDat d = true) (h : deep d ≤ 64) : SeqAt.shaped (toPy d) = true := by
  show ((toPy d).canLay0 && decide ((toPy d).depth ≤ 64)) = true
  rw [lay_of d hd, deep_of]
  simpa using h
theorem mono_dp {K : PySem.W.Frag} {G H : Hp} (e : Ex G H) {v : V} {d : Dt} (r : Rep K G v d) (h : isDat d = true) : Dp K H v (toPy d) := dp_of d v (r.mono e) h

/-! a value as data: cells are read -/
mutual
inductive Val (M : Ms) : Dt → Dt → Prop
  | imm {d : Dt} : isDat d = true → Val M d d
  | lst {x : Dt} {ds es : List Dt} : LstD M ds x → Vals M ds es → Val M x (.lst es)
inductive Vals (M : Ms) : List Dt → List Dt → Prop
  | nil : Vals M [] []
  | cons {d e : Dt} {ds es : List Dt} : Val M d e → Vals M ds es → Vals M (d :: ds) (e :: es)
end
section
variable {K : PySem.W.Frag} {B : Fr} {M : Ms} {G H : Hp}
theorem Vals.imm : ∀ {ds : List Dt}, isDats ds = true → Vals M ds ds
  | [], _ => .nil
  | d :: ds, h => by
    have h' : isDat d = true ∧ isDats ds = true := by simpa [isDats] using h
    exact .cons (.imm h'.1) (Vals.imm h'.2)
mutual
theorem Val.dp (L : Lay K B G M H) : ∀ {d e : Dt} {v : V}, Val M d e → Rep K G v d → Dp K H v (toPy e)
  | _, _, v, .imm h, r => mono_dp L.sub r h
  | _, _, v, .lst (es := es) hl hv, r => by
    obtain ⟨a, vs, rfl, e, t⟩ := hl.at L r
    simp only [toPy]
    exact .lst (SqL.of e) (Vals.dp L hv t)
theorem Vals.dp (L : Lay K B G M H) : ∀ {ds es : List Dt} {vs : List V}, Vals M ds es → RepAll K G vs ds → DpAll K H vs (toPys es)
  | _, _, _, .nil, .nil => by simp only [toPys]; exact .nil
  | _, _, _, .cons h hr, .cons r rs => by simp only [toPys]; exact .cons (Val.dp L h r) (Vals.dp L hr rs)
end
end

/-- how a type is written as data, and that == tells two of it apart -/
structure Enc {α : Type} (f : α → Dt) (n : Nat) : Prop where
  al : ∀ a b, alike (f a) (f b) = true
  inj : ∀ a b, f a = f b → a = b
  dat : ∀ a, isDat (f a) = true
  dep : ∀ a, deep (f a) ≤ n
theorem enc_int : Enc Dt.int 0 := ⟨fun _ _ => rfl, fun _ _ h => Dt.int.inj h, fun _ => rfl, fun _ => Nat.le_refl _⟩
theorem enc_bl : Enc Dt.bl 0 := ⟨fun _ _ => rfl, fun _ _ h => Dt.bl.inj h, fun _ => rfl, fun _ => Nat.le_refl _⟩
section
variable {α β : Type} {f : α → Dt} {g : β → Dt} {n m : Nat}
theorem Enc.als (h : Enc f n) : ∀ a b : List α, alikes (a.map f) (b.map f) = true
  | [], _ => by simp [alikes]
  | _ :: _, [] => by simp [alikes]
  | x :: a, y :: b => by simp only [List.map_cons, alikes, h.al, h.als a b, Bool.and_self]
theorem Enc.dats (h : Enc f n) : ∀ a : List α, isDats (a.map f) = true
  | [] => by simp [isDats]
  | x :: a => by simp only [List.map_cons, isDats, h.dat, h.dats a, Bool.and_self]
theorem Enc.deps (h : Enc f n) : ∀ a : List α, deeps (a.map f) ≤ n
  | [] => by simp [deeps]
  | x :: a => by
    have h1 := h.dep x
    have h2 := h.deps a
    simp only [List.map_cons, deeps]
    omega
theorem Enc.injs (h : Enc f n) : ∀ a b : List α, a.map f = b.map f → a = b
  | [], [], _ => rfl
  | [], _ :: _, e => by simp at e
  | _ :: _, [], e => by simp at e
  | x :: a, y :: b, e => by
    simp only [List.map_cons, List.cons.injEq] at e
    rw [h.inj x y e.1, h.injs a b e.2]
theorem Enc.lst (h : Enc f n) : Enc (fun l : List α => Dt.lst (l.map f)) (n + 1) :=
  ⟨fun a b => by simp only [alike]; exact h.als a b, fun a b e => h.injs a b (Dt.lst.inj e), fun a => by simp only [isDat]; exact h.dats a, fun a => by have := h.deps a; simp only [deep]; omega⟩
theorem Enc.tup (h : Enc f n) : Enc (fun l : List α => Dt.tup (l.map f)) (n + 1) :=
  ⟨fun a b => by simp only [alike]; exact h.als a b, fun a b e => h.injs a b (Dt.tup.inj e), fun a => by simp only [isDat]; exact h.dats a, fun a => by have := h.deps a; simp only [deep]; omega⟩
/-- None or .. -/
def optD (f : α → Dt) : Option α → Dt
  | none => .non
  | some a => f a
theorem alike_non (e : Dt) (h : isDat e = true) : alike .non e = true ∧ alike e .non = true := by
  cases e <;> first | exact ⟨rfl, rfl⟩ | simp [isDat] at h
theorem Enc.opt (h : Enc f n) (hn : ∀ a, f a ≠ .non) : Enc (optD f) n :=
  ⟨fun a b => by
    cases a <;> cases b
    · rfl
    · exact (alike_non _ (h.dat _)).1
    · exact (alike_non _ (h.dat _)).2
    · exact h.al _ _, fun a b e => by
    cases a <;> cases b
    · rfl
    · exact absurd e.symm (hn _)
    · exact absurd e (hn _)
    · rw [h.inj _ _ e], fun a => by cases a <;> first | rfl | exact h.dat _, fun a => by cases a <;> first | exact Nat.zero_le _ | exact h.dep _⟩
theorem Enc.pair (h : Enc f n) (k : Enc g m) : Enc (fun p : α × β => Dt.tup [f p.1, g p.2]) (max n m + 1) :=
  ⟨fun a b => by simp only [alike, alikes, h.al, k.al, Bool.and_self], fun a b e => by
    simp only [Dt.tup.injEq, List.cons.injEq, and_true] at e
    exact Prod.ext (h.inj _ _ e.1) (k.inj _ _ e.2), fun a => by simp only [isDat, isDats, h.dat, k.dat, Bool.and_self], fun a => by
    have h1 := h.dep a.1
    have h2 := k.dep a.2
    simp only [deep, deeps]
    omega⟩
theorem Enc.eqv (h : Enc f n) (a b : α) : PyData.eqv (toPy (f a)) (toPy (f b)) = true ↔ a = b :=
  (eqv_alike _ _ (h.al a b)).trans ⟨h.inj a b, fun e => e ▸ rfl⟩
theorem Enc.any (h : Enc f n) (a : α) : ∀ l : List α, ((toPys (l.map f)).any fun z => PyData.eqv z (toPy (f a))) = true ↔ a ∈ l
  | [] => by simp [toPys]
  | x :: l => by
    simp only [List.map_cons, toPys, List.any_cons, Bool.or_eq_true, h.eqv, h.any a l, List.mem_cons]
    exact ⟨fun e => e.imp Eq.symm id, fun e => e.imp Eq.symm id⟩
end

/-! ### the rules -/
section
variable {X : Cx}
theorem o_eq (hu : X.A.units + 64 < cLine) : OpR X (compareOp .Eq) (rEqD X.K) := op_eqD hu
theorem o_ne (hu : X.A.units + 64 < cLine) : OpR X (compareOp .NotEq) (rNeD X.K) := op_neD hu
theorem o_in (hu : X.A.units + 65 < cLine) : OpR X (compareOp .In) (rInD X.K) := op_inD hu
theorem o_nin (hu : X.A.units + 65 < cLine) : OpR X (compareOp .NotIn) (rNotInD X.K) := op_notInD hu
end
section
variable {K : PySem.W.Frag} {B : Fr} {s : Sl} {M : Ms} {Φ : Dt → Ms → Prop} {x y x' y' : Dt} {α : Type} {f : α → Dt} {n : Nat} {i j : Int}
theorem p_eqX (h1 : Val M x x') (h2 : Val M y y') (ha : alike x' y' = true) (d1 : isDat x' = true) (d2 : isDat y' = true) (z1 : deep x' ≤ 64) (z2 : deep y' ≤ 64) (k : ∀ b, (b = true ↔ x' = y') → Φ (.bl b) M) : Op2 K B (rEqD K) x y M Φ := fun G H v w Q L r1 r2 q =>
  ⟨_, _, h1.dp L r1, h2.dp L r2, shaped_of d1 z1, shaped_of d2 z2, q _ _ M G H L (Ex.refl G) (.bl _) (k _ (eqv_alike x' y' ha))⟩
theorem p_neX (h1 : Val M x x') (h2 : Val M y y') (ha : alike x' y' = true) (d1 : isDat x' = true) (d2 : isDat y' = true) (z1 : deep x' ≤ 64) (z2 : deep y' ≤ 64) (k : ∀ b, (b = false ↔ x' = y') → Φ (.bl b) M) : Op2 K B (rNeD K) x y M Φ := fun G H v w Q L r1 r2 q =>
  ⟨_, _, h1.dp L r1, h2.dp L r2, shaped_of d1 z1, shaped_of d2 z2, q _ _ M G H L (Ex.refl G) (.bl _) (k _ (by rw [Bool.not_eq_false']; exact eqv_alike x' y' ha))⟩
/-- two of one type -/
theorem p_eqE (e : Enc f n) (hn : n ≤ 64) {a b : α} (h1 : Val M x (f a)) (h2 : Val M y (f b)) (k : ∀ c, (c = true ↔ a = b) → Φ (.bl c) M) : Op2 K B (rEqD K) x y M Φ :=
  p_eqX h1 h2 (e.al a b) (e.dat a) (e.dat b) (Nat.le_trans (e.dep a) hn) (Nat.le_trans (e.dep b) hn) fun c hc => k c (hc.trans ⟨e.inj a b, fun q => q ▸ rfl⟩)
theorem p_neE (e : Enc f n) (hn : n ≤ 64) {a b : α} (h1 : Val M x (f a)) (h2 : Val M y (f b)) (k : ∀ c, (c = false ↔ a = b) → Φ (.bl c) M) : Op2 K B (rNeD K) x y M Φ :=
  p_neX h1 h2 (e.al a b) (e.dat a) (e.dat b) (Nat.le_trans (e.dep a) hn) (Nat.le_trans (e.dep b) hn) fun c hc => k c (hc.trans ⟨e.inj a b, fun q => q ▸ rfl⟩)
theorem p_eqI (k : Φ (.bl (decide (i = j))) M) : Op2 K B (rEqD K) (.int i) (.int j) M Φ := p_eqE enc_int (by decide) (.imm rfl) (.imm rfl) fun c hc => by
  have e : c = decide (i = j) := by rw [Bool.eq_iff_iff]; simpa using hc
  rw [e]; exact k
theorem p_neI (k : Φ (.bl (decide (i ≠ j))) M) : Op2 K B (rNeD K) (.int i) (.int j) M Φ := p_neE enc_int (by decide) (.imm rfl) (.imm rfl) fun c hc => by
  have e : c = decide (i ≠ j) := by
    cases c <;> simp_all
  rw [e]; exact k
theorem p_eqB {a b : Bool} (k : Φ (.bl (a == b)) M) : Op2 K B (rEqD K) (.bl a) (.bl b) M Φ := p_eqE enc_bl (by decide) (.imm rfl) (.imm rfl) fun c hc => by
  have e : c = (a == b) := by cases a <;> cases b <;> cases c <;> simp_all
  rw [e]; exact k
theorem p_neB {a b : Bool} (k : Φ (.bl (a != b)) M) : Op2 K B (rNeD K) (.bl a) (.bl b) M Φ := p_neE enc_bl (by decide) (.imm rfl) (.imm rfl) fun c hc => by
  have e : c = (a != b) := by cases a <;> cases b <;> cases c <;> simp_all
  rw [e]; exact k
theorem p_inE (e : Enc f n) (hn : n ≤ 63) {a : α} {l : List α} (h1 : Val M x (f a)) (h2 : Val M y (.lst (l.map f))) (k : ∀ c, (c = true ↔ a ∈ l) → Φ (.bl c) M) : Op2 K B (rInD K) x y M Φ := fun G H v w Q L r1 r2 q => by
  have d2 := h2.dp L r2
  simp only [toPy] at d2
  have z : SeqAt.shaped (.list (toPys (l.map f))) = true := by
    have := shaped_of (d := .lst (l.map f)) (e.lst.dat l) (Nat.le_trans (e.lst.dep l) (by omega))
    simpa only [toPy] using this
  exact ⟨_, _, h1.dp L r1, d2, shaped_of (e.dat a) (Nat.le_trans (e.dep a) (by omega)), z, q _ _ M G H L (Ex.refl G) (.bl _) (k _ (e.any a l))⟩
theorem p_ninE (e : Enc f n) (hn : n ≤ 63) {a : α} {l : List α} (h1 : Val M x (f a)) (h2 : Val M y (.lst (l.map f))) (k : ∀ c, (c = false ↔ a ∈ l) → Φ (.bl c) M) : Op2 K B (rNotInD K) x y M Φ := fun G H v w Q L r1 r2 q => by
  have d2 := h2.dp L r2
  simp only [toPy] at d2
  have z : SeqAt.shaped (.list (toPys (l.map f))) = true := by
    have := shaped_of (d := .lst (l.map f)) (e.lst.dat l) (Nat.le_trans (e.lst.dep l) (by omega))
    simpa only [toPy] using this
  exact ⟨_, _, h1.dp L r1, d2, shaped_of (e.dat a) (Nat.le_trans (e.dep a) (by omega)), z, q _ _ M G H L (Ex.refl G) (.bl _) (k _ (by rw [Bool.not_eq_false']; exact e.any a l))⟩
end

/-! ### isinstance -/
structure InsTy (K : PySem.W.Frag) (C : Addr) : Prop where
  cl : Cls K C
  ha : PySem.W.findIn K (.ref C) "__class__" = some (some (.builtin "object.__class__"))
  hn : PySem.W.specialIn K (.builtin "object.__class__") "__get__" = some (some (.builtin "getset_descriptor.__get__"))
  htk : PySem.W.takesIn K (.builtin "object.__class__") = some true
  hm : PySem.W.mroIn K C (.type "object") = some true
inductive TyIs (K : PySem.W.Frag) (M : Ms) : Dt → Value → Prop
  | non : TyIs K M .non (.type "NoneType")
  | bl (b : Bool) : TyIs K M (.bl b) (.type "bool")
  | int (i : Int) : TyIs K M (.int i) (.type "int")
  | str (s : Str) : TyIs K M (.str s) (.type "str")
  | lst {ds : List Dt} {x : Dt} : LstD M ds x → TyIs K M x (.type "list")
  | tup (ds : List Dt) : TyIs K M (.tup ds) (.type "tuple")
  | ins {C : Addr} {fs : List Str} {ds : List Dt} {x : Dt} : InsD M C fs ds x → InsTy K C → TyIs K M x (.ref C)
theorem c_isi {K : PySem.W.Frag} {B : Fr} {M : Ms} {Φ : Dt → Ms → Prop} {x c : Dt} {t u : Value} {b : Bool} (hx : TyIs K M x t) (hc : (∃ n, c = .ty n ∧ u = .type n) ∨ ∃ C, c = .ref C ∧ u = .ref C) (hb : PySem.W.kitOne K t u = some b) (k : Φ (.bl b) M) : OpN K B (rIsi K) [x, c] M Φ := fun G H vs Q L rs q => by
  cases rs with
  | cons r1 r0 =>
    cases r0 with
    | cons r2 r0 =>
      cases r0
      rename_i v w
      have cw : ClsV w u := by
        rcases hc with ⟨n, rfl, rfl⟩ | ⟨C, rfl, rfl⟩
        · rw [r2.tyOf]; exact .ty n
        · rw [r2.refOf]; exact .own C
      refine ⟨v, w, t, u, b, rfl, cw, ?_, hb, q _ _ M G H L (Ex.refl G) (.bl _) k⟩
      refine .base ?_
      cases hx with
      | non => rw [r1.nonOf]; exact .non
      | bl b => rw [r1.blOf]; exact .bl b
      | int i => rw [r1.intOf]; exact .int i
      | str s => rw [r1.strOf]; exact .str s
      | lst h => obtain ⟨a, vs, rfl, e, _⟩ := h.at L r1; exact .lst e
      | tup ds => obtain ⟨a, vs, rfl, e, _⟩ := r1.tupOf; exact .tup (L.sub _ _ e)
      | ins h i => obtain ⟨a, dx, vs, rfl, e, _⟩ := h.at L r1; exact .ins e i.cl i.ha i.hn i.htk i.hm
end Ask
/-! Promises in short. -/
namespace Ask
open PySem L2

/-- a def without cells that gives back data | a new list | raises -/
def fnV (R : List Dt → Dt → Prop) : FT := fun ds M Φ _ => M = [] ∧ ∃ d, R ds d ∧ Φ d []
def fnL (R : List Dt → List Dt → Prop) : FT := fun ds M Φ _ => M = [] ∧ ∃ es, R ds es ∧ ∀ p, Φ (.ref p) [.one p (.lst es)]
section
variable {K : PySem.W.Frag} {B : Fr} {s : Sl} {M : Ms} {Φ : Dt → Ms → Prop} {te : TE} {n : Nat} {W : WX} {Ξc : Addr → Sl → Ms → Prop} {t : TA} {R : List Dt → Dt → Prop} {RL : List Dt → List Dt → Prop}
theorem e_callV (x : XOk K B W Ξc) (h : EvA K B t s M fun ds M1 => ds.length = n ∧ ∃ d, R ds d ∧ Φ d M1) : EvW K B (tCallS (spG K n (fnV R)) (WE W) t) s M Φ :=
  e_call x fun G H σ Q L S q => h G H σ Q L S fun vs ds M' G' H' L' e r k => q vs ds M' G' H' L' e r (by
    obtain ⟨hn, d, hr, k⟩ := k
    exact ⟨hn, [], M', .refl _, rfl, d, hr, k⟩)
theorem e_methV {C : Addr} {m : Str} (x : XOk K B W Ξc) (h : EvW K B te s M fun o M1 => ∃ fs ds, InsD M1 C fs ds o ∧ m ∉ fs ∧ EvA K B t s M1 fun as M2 => as.length + 1 = n ∧ ∃ d, R (o :: as) d ∧ Φ d M2) : EvW K B (tMethS C m (spG K n (fnV R)) (WE W) te t) s M Φ :=
  e_meth x fun G H σ Q L S q => h G H σ Q L S fun v o M' G' H' L' e r k => q v o M' G' H' L' e r (by
    obtain ⟨fs, ds, i, hm, k⟩ := k
    refine ⟨fs, ds, i, hm, fun G H σ Q L S q => k G H σ Q L S fun vs as M2 G2 H2 L2 e2 r2 k2 => q vs as M2 G2 H2 L2 e2 r2 ?_⟩
    obtain ⟨hn, d, hr, k⟩ := k2
    exact ⟨hn, [], M2, .refl _, rfl, d, hr, k⟩)
/-- the callee's new list p is none of ours -/
theorem call_coreL (x : XOk K B W Ξc) {ds : List Dt} {M1 : Ms} (hn : ds.length = n) {es : List Dt} (hr : RL ds es) (k : ∀ p, p ∉ B.T → (Fz B Φ (.ref p) (.one p (.lst es) :: M1) ∨ Φ (.ref p) (.one p (.lst es) :: M1)))
    {G H : Hp} {σ : L2.St} {vs : List V} {Q : VK} (L : Lay K B G M1 H) (S : Slots K G σ s) (r : RepAll K G vs ds) (q : ∀ v d M' G' H', Lay K B G' M' H' → Ex G G' → Rep K G' v d → Φ d M' → Q v H') :
    spG K n (fnL RL) vs H Q (fun cls d H => W cls d σ H) := by
  refine ⟨r.len.trans hn, G, [], ds, fun d M' => ∃ p, d = .ref p ∧ M' = [.one p (.lst es)], fun _ _ => False, (show Lay K B G ([] ++ M1) H from L).enter, r, ⟨rfl, es, hr, fun p => ⟨p, rfl, rfl⟩⟩, fun v d M' G' H' L' r' kk => ?_, fun _ _ _ _ _ k => k.elim⟩
  obtain ⟨p, rfl, rfl⟩ := kk
  have Lb : Lay K B G' ([.one p (.lst es)] ++ M1) H' := Lay.back (Ma := []) L L'
  have hp : H p = none := (L'.new p (by simp [fpM, Ent.fp])).resolve_left (by simp [fpM])
  have hT : p ∉ B.T := fun z => L.freshM hp (L.tin p z)
  rw [r'.refOf]
  exact lc_end hT ⟨G', Lb, L'.grown L.sub⟩ (k p hT) q
theorem e_callL (x : XOk K B W Ξc) (h : EvA K B t s M fun ds M1 => ds.length = n ∧ ∃ es, RL ds es ∧ ∀ p, p ∉ B.T → (Fz B Φ (.ref p) (.one p (.lst es) :: M1) ∨ Φ (.ref p) (.one p (.lst es) :: M1))) : EvW K B (tCallS (spG K n (fnL RL)) (WE W) t) s M Φ := fun G H σ Q L S q =>
  h G H σ _ L S fun vs ds M' G' H' L' e r h' => by
    obtain ⟨hn, es, hr, k⟩ := h'
    exact call_coreL x hn hr k L' (S.mono e) r fun v d M2 G2 H2 L2 e2 => q v d M2 G2 H2 L2 (e.trans e2)
theorem e_methL {C : Addr} {m : Str} (x : XOk K B W Ξc) (h : EvW K B te s M fun o M1 => ∃ fs ds, InsD M1 C fs ds o ∧ m ∉ fs ∧ EvA K B t s M1 fun as M2 => as.length + 1 = n ∧ ∃ es, RL (o :: as) es ∧ ∀ p, p ∉ B.T → (Fz B Φ (.ref p) (.one p (.lst es) :: M2) ∨ Φ (.ref p) (.one p (.lst es) :: M2))) :
    EvW K B (tMethS C m (spG K n (fnL RL)) (WE W) te t) s M Φ := fun G H σ Q L S q =>
  h G H σ _ L S fun v o M' G' H' L' e r h' => by
    obtain ⟨fs, ds, i, hm, h'⟩ := h'
    obtain ⟨a, dx, vs, rfl, ea, l, _⟩ := i.at L' r
    refine ⟨a, dx, _, rfl, ea, lookF_none hm, h' G' H' σ _ L' (S.mono e) fun vs as M2 G2 H2 L2 e2 rs h2 => ?_⟩
    obtain ⟨hn, es, hr, k⟩ := h2
    exact call_coreL (n := n) (ds := o :: as) x (by simpa using hn) hr k L2 (S.mono (e.trans e2)) (.cons (r.mono e2) rs) fun v d M3 G3 H3 L3 e3 => q v d M3 G3 H3 L3 ((e.trans e2).trans e3)
end

/-! ### how things are written as data -/
abbrev dInts (l : List Int) : Dt := .lst (l.map Dt.int)
abbrev dBls (l : List Bool) : Dt := .lst (l.map Dt.bl)
abbrev dRows (l : List (List Int)) : Dt := .lst (l.map dInts)
theorem enc_ints : Enc dInts 1 := enc_int.lst
theorem enc_bls : Enc dBls 1 := enc_bl.lst
theorem enc_rows : Enc dRows 2 := enc_ints.lst
/-- the item of a written-out list -/
theorem get_map {α : Type} {l : List α} {f : α → Dt} {i : Nat} {a : α} (h : l[i]? = some a) : (l.map f)[i]? = some (f a) := by rw [List.getElem?_map, h]; rfl
theorem of_get_map {α : Type} {l : List α} {f : α → Dt} {i : Nat} {d : Dt} (h : (l.map f)[i]? = some d) : ∃ a, l[i]? = some a ∧ d = f a := by
  rw [List.getElem?_map] at h
  cases e : l[i]? with
  | none => rw [e] at h; cases h
  | some a => rw [e] at h; cases h; exact ⟨a, rfl, rfl⟩
theorem get_some {α : Type} {l : List α} {i : Nat} (h : i < l.length) (d : α) : l[i]? = some (l.getD i d) := by
  rw [List.getD_eq_getElem?_getD, List.getElem?_eq_getElem h]; rfl
theorem at_map {α : Type} {l : List α} {f : α → Dt} {i : Int} (d : α) (h0 : 0 ≤ i) (h : i < l.length) : atI (l.map f) i = some (f (l.getD i.toNat d)) :=
  at_nat h0 (get_map (get_some (by omega) d))
theorem at_last {α : Type} {l : List α} {f : α → Dt} (a : α) : atI ((l ++ [a]).map f) (-1) = some (f a) := by
  rw [List.map_append]; exact atI_last _ _
theorem take_map {α : Type} {l : List α} {f : α → Dt} {i : Nat} {a : α} (h : l[i]? = some a) : (l.take (i + 1)).map f = (l.take i).map f ++ [f a] := by
  rw [List.take_add_one, h, List.map_append]; rfl
theorem take_all {α : Type} {l : List α} {n : Nat} (h : l.length = n) : l.take n = l := by rw [← h, List.take_length]
end Ask
/-! The law's own end. -/
namespace Ask
open PySem L2
inductive RLaw : List Dt → Dt → Prop
  | mk {ns : List Int} : ns.length ≤ 63 → RLaw [.scr ns] (.bl true)
theorem units65 {k : Nat} {A : Around} (r : Room k A) : A.units + 65 < cLine := by have := r.un; omega
theorem law_start {K : PySem.W.Frag} {H : Hp} {a : Addr} {ns : List Int} (hl : ns.length ≤ 63) (hS : SqL K H a (ns.map V.int)) : spG K 1 (fnV RLaw) [.ref a] H (fun v _ => v = .bl true) fun _ _ _ => False := by
  refine ⟨rfl, H, [], [.scr ns], fun d M => d = .bl true ∧ M = [], fun _ _ => False, ⟨Ex.refl H, List.nodup_nil, fun _ h => absurd h (by simp [fpM]), fun _ h => absurd h (by simp), fun _ _ h _ => h, fun _ _ => rfl, fun _ h => absurd h (by simp [fpM]), fun _ h => absurd h (by simp [fpM])⟩, .one (.scr hS), ⟨rfl, _, .mk hl, rfl, rfl⟩, fun v d M' G' H' _ r k => ?_, fun _ _ _ _ _ k => k⟩
  obtain ⟨rfl, _⟩ := k
  exact r.blOf
theorem law_cx {P : Program} {w : World} {H : Hp} {s s' : Shared} {e : Value} (z : L2.CX P w [] H s (fun _ _ _ => False) e s') : False := by
  obtain ⟨_, _, _, _, _, _, _, _, _, _, _, _, z⟩ := z
  exact z
end Ask
/-! One step of a reading at a time, found by its form. -/
namespace Ask
open PySem L2

class Stp (g : Prop) (h : outParam Prop) : Prop where imp : h → g
theorem stp {g h : Prop} [i : Stp g h] (k : h) : g := i.imp k
/-- a side condition | a branch | an item -/
def Pre (p q : Prop) : Prop := p ∧ q
theorem pre_i {p q : Prop} (h : p) (k : q) : Pre p q := ⟨h, k⟩
def Br (p a b : Prop) : Prop := (p → a) ∧ (¬ p → b)
theorem br_i {p a b : Prop} (h : p → a) (k : ¬ p → b) : Br p a b := ⟨h, k⟩
theorem br_yes {p a b : Prop} (h : p) (k : a) : Br p a b := ⟨fun _ => k, fun n => absurd h n⟩
theorem br_no {p a b : Prop} (h : ¬ p) (k : b) : Br p a b := ⟨fun n => absurd n h, fun _ => k⟩
def Ix (ds : List Dt) (i : Int) (Ψ : Dt → Prop) : Prop := ∃ d, atI ds i = some d ∧ Ψ d
def gt {α : Type} [Inhabited α] (l : List α) (i : Int) : α := l.getD i.toNat default
theorem gt_nat {α : Type} [Inhabited α] {l : List α} {i : Nat} {a : α} (h : l[i]? = some a) : gt l (i : Int) = a := by
  unfold gt; rw [List.getD_eq_getElem?_getD, Int.toNat_natCast, h]; rfl
theorem gt_mem {α : Type} [Inhabited α] {l : List α} {i : Int} (h0 : 0 ≤ i) (h : i < l.length) : gt l i ∈ l := by
  unfold gt; rw [List.getD_eq_getElem?_getD, List.getElem?_eq_getElem (by omega)]; exact List.getElem_mem _

section
variable {s s' s'' : Sl} {i j n : Nat} {d d' : Dt} {x : Option Dt}
class Look (s : Sl) (i : Nat) (d : outParam Dt) : Prop where h : s[i]? = some (some d)
instance look0 : Look (some d :: s) 0 d := ⟨rfl⟩
instance lookS [l : Look s i d] : Look (x :: s) (i + 1) d := ⟨l.h⟩
class SetC (s : Sl) (i : Nat) (x : Option Dt) (s' : outParam Sl) : Prop where h : s.set i x = s'
instance set0 {y : Option Dt} : SetC (y :: s) 0 x (x :: s) := ⟨rfl⟩
instance setS {y : Option Dt} [l : SetC s i x s'] : SetC (y :: s) (i + 1) x (y :: s') := ⟨by rw [List.set_cons_succ, l.h]⟩
class WipeC (s : Sl) (vs : List Nat) (s' : outParam Sl) : Prop where h : wipeS s vs = s'
instance wipe0 : WipeC s [] s := ⟨rfl⟩
instance wipeC {vs : List Nat} [l : WipeC s vs s'] [m : SetC s' i none s''] : WipeC s (i :: vs) s'' := ⟨by show (wipeS s vs).set i none = s''; rw [l.h, m.h]⟩
class LenN (xs : List Dt) (n : Nat) : Prop where h : xs.length = n
instance len0 : LenN [] 0 := ⟨rfl⟩
instance lenS {xs : List Dt} [l : LenN xs n] : LenN (d :: xs) (n + 1) := ⟨by rw [List.length_cons, l.h]⟩
end
section
variable {M M' : Ms} {a : Addr} {c c' : Cell} {ds es : List Dt} {e : Ent}
class FindC (M : Ms) (a : Addr) (c : outParam Cell) : Prop where h : .one a c ∈ M
instance find0 : FindC (.one a c :: M) a c := ⟨List.mem_cons_self⟩
instance (priority := low) findS [l : FindC M a c] : FindC (e :: M) a c := ⟨List.mem_cons_of_mem _ l.h⟩
class PutC (M : Ms) (a : Addr) (c c' : Cell) (M' : outParam Ms) : Prop where h : Upd M a c c' M'
instance put0 : PutC (.one a c :: M) a c c' (.one a c' :: M) := ⟨.here⟩
instance (priority := low) putS [l : PutC M a c c' M'] : PutC (e :: M) a c c' (e :: M') := ⟨.there l.h⟩
class SeqC (M : Ms) (x : Dt) (ds : outParam (List Dt)) : Prop where h : SeqD M ds x
instance seq_imm : SeqC M (.lst ds) ds := ⟨.lst .imm⟩
instance seq_scr {ns : List Int} : SeqC M (.scr ns) (ns.map Dt.int) := ⟨.scr rfl⟩
instance seq_ref [l : FindC M a (.lst ds)] : SeqC M (.ref a) ds := ⟨.lst (.one l.h)⟩
class LstC (M : Ms) (x : Dt) (ds : outParam (List Dt)) : Prop where h : LstD M ds x
instance lst_imm : LstC M (.lst ds) ds := ⟨.imm⟩
instance lst_ref [l : FindC M a (.lst ds)] : LstC M (.ref a) ds := ⟨.one l.h⟩
class LenOf (ds : List Dt) (n : outParam Nat) : Prop where h : ds.length = n
instance (priority := low) lenOf0 : LenOf ds ds.length := ⟨rfl⟩
instance lenOfM {α : Type} {f : α → Dt} {l : List α} : LenOf (l.map f) l.length := ⟨List.length_map ..⟩
instance lenOfN : LenOf [] 0 := ⟨rfl⟩
instance lenOfC {d : Dt} {n : Nat} [l : LenOf ds n] : LenOf (d :: ds) (n + 1) := ⟨by rw [List.length_cons, l.h]⟩
instance lenOfA {n m : Nat} [l : LenOf ds n] [k : LenOf es m] : LenOf (ds ++ es) (n + m) := ⟨by rw [List.length_append, l.h, k.h]⟩
/-- fields -/
class NeS (f g : Str) : Prop where h : (f == g) = false
class LookF (fs : List Str) (ds : List Dt) (f : Str) (d : outParam Dt) : Prop where h : lookF fs ds f = some d
instance lookF0 {fs : List Str} {f : Str} {d : Dt} : LookF (f :: fs) (d :: ds) f d := ⟨by simp [lookF, List.lookup]⟩
instance (priority := low) lookFS {fs : List Str} {f g : Str} {d d' : Dt} [l : LookF fs ds f d] [n : NeS f g] : LookF (g :: fs) (d' :: ds) f d := ⟨by
  have := l.h
  unfold lookF at this ⊢
  rw [List.zip_cons_cons, List.lookup_cons, n.h]; exact this⟩
instance ne_doors_ways : NeS "doors" "ways" := ⟨by decide⟩
instance ne_doors_lamps : NeS "doors" "lamps" := ⟨by decide⟩
instance ne_doors_notes : NeS "doors" "notes" := ⟨by decide⟩
instance ne_doors_book : NeS "doors" "book" := ⟨by decide⟩
instance ne_doors_heads : NeS "doors" "heads" := ⟨by decide⟩
instance ne_doors_tails : NeS "doors" "tails" := ⟨by decide⟩
instance ne_doors_waiting : NeS "doors" "waiting" := ⟨by decide⟩
instance ne_ways_doors : NeS "ways" "doors" := ⟨by decide⟩
instance ne_ways_lamps : NeS "ways" "lamps" := ⟨by decide⟩
instance ne_ways_notes : NeS "ways" "notes" := ⟨by decide⟩
instance ne_ways_book : NeS "ways" "book" := ⟨by decide⟩
instance ne_ways_heads : NeS "ways" "heads" := ⟨by decide⟩
instance ne_ways_tails : NeS "ways" "tails" := ⟨by decide⟩
instance ne_ways_waiting : NeS "ways" "waiting" := ⟨by decide⟩
instance ne_lamps_doors : NeS "lamps" "doors" := ⟨by decide⟩
instance ne_lamps_ways : NeS "lamps" "ways" := ⟨by decide⟩
instance ne_lamps_notes : NeS "lamps" "notes" := ⟨by decide⟩
instance ne_lamps_book : NeS "lamps" "book" := ⟨by decide⟩
instance ne_lamps_heads : NeS "lamps" "heads" := ⟨by decide⟩
instance ne_lamps_tails : NeS "lamps" "tails" := ⟨by decide⟩
instance ne_lamps_waiting : NeS "lamps" "waiting" := ⟨by decide⟩
instance ne_notes_doors : NeS "notes" "doors" := ⟨by decide⟩
instance ne_notes_ways : NeS "notes" "ways" := ⟨by decide⟩
instance ne_notes_lamps : NeS "notes" "lamps" := ⟨by decide⟩
instance ne_notes_book : NeS "notes" "book" := ⟨by decide⟩
instance ne_notes_heads : NeS "notes" "heads" := ⟨by decide⟩
instance ne_notes_tails : NeS "notes" "tails" := ⟨by decide⟩
instance ne_notes_waiting : NeS "notes" "waiting" := ⟨by decide⟩
instance ne_book_doors : NeS "book" "doors" := ⟨by decide⟩
instance ne_book_ways : NeS "book" "ways" := ⟨by decide⟩
instance ne_book_lamps : NeS "book" "lamps" := ⟨by decide⟩
instance ne_book_notes : NeS "book" "notes" := ⟨by decide⟩
instance ne_book_heads : NeS "book" "heads" := ⟨by decide⟩
instance ne_book_tails : NeS "book" "tails" := ⟨by decide⟩
instance ne_book_waiting : NeS "book" "waiting" := ⟨by decide⟩
instance ne_heads_doors : NeS "heads" "doors" := ⟨by decide⟩
instance ne_heads_ways : NeS "heads" "ways" := ⟨by decide⟩
instance ne_heads_lamps : NeS "heads" "lamps" := ⟨by decide⟩
instance ne_heads_notes : NeS "heads" "notes" := ⟨by decide⟩
instance ne_heads_book : NeS "heads" "book" := ⟨by decide⟩
instance ne_heads_tails : NeS "heads" "tails" := ⟨by decide⟩
instance ne_heads_waiting : NeS "heads" "waiting" := ⟨by decide⟩
instance ne_tails_doors : NeS "tails" "doors" := ⟨by decide⟩
instance ne_tails_ways : NeS "tails" "ways" := ⟨by decide⟩
instance ne_tails_lamps : NeS "tails" "lamps" := ⟨by decide⟩
instance ne_tails_notes : NeS "tails" "notes" := ⟨by decide⟩
instance ne_tails_book : NeS "tails" "book" := ⟨by decide⟩
instance ne_tails_heads : NeS "tails" "heads" := ⟨by decide⟩
instance ne_tails_waiting : NeS "tails" "waiting" := ⟨by decide⟩
instance ne_waiting_doors : NeS "waiting" "doors" := ⟨by decide⟩
instance ne_waiting_ways : NeS "waiting" "ways" := ⟨by decide⟩
instance ne_waiting_lamps : NeS "waiting" "lamps" := ⟨by decide⟩
instance ne_waiting_notes : NeS "waiting" "notes" := ⟨by decide⟩
instance ne_waiting_book : NeS "waiting" "book" := ⟨by decide⟩
instance ne_waiting_heads : NeS "waiting" "heads" := ⟨by decide⟩
instance ne_waiting_tails : NeS "waiting" "tails" := ⟨by decide⟩
class FldOk (K : PySem.W.Frag) (C : Addr) (f : Str) : Prop where
  c : Cls K C
  n : NoAttr K C f
def FldOf (K : PySem.W.Frag) (M : Ms) (f : Str) (x : Dt) (Ψ : Dt → Prop) : Prop := ∃ C fs ds d, InsD M C fs ds x ∧ Cls K C ∧ NoAttr K C f ∧ lookF fs ds f = some d ∧ Ψ d
def IsIns (M : Ms) (C : Addr) (m : Str) (x : Dt) (Q : Prop) : Prop := ∃ fs ds, InsD M C fs ds x ∧ m ∉ fs ∧ Q
instance s_fld_imm {K : PySem.W.Frag} {C : Addr} {fs : List Str} {f : Str} {d : Dt} {Ψ : Dt → Prop} [o : FldOk K C f] [l : LookF fs ds f d] : Stp (FldOf K M f (.ins C fs ds) Ψ) (Ψ d) := ⟨fun k => ⟨C, fs, ds, d, .imm, o.c, o.n, l.h, k⟩⟩
instance s_fld_ref {K : PySem.W.Frag} {C : Addr} {fs : List Str} {f : Str} {d : Dt} {Ψ : Dt → Prop} [q : FindC M a (.ins C fs ds)] [o : FldOk K C f] [l : LookF fs ds f d] : Stp (FldOf K M f (.ref a) Ψ) (Ψ d) := ⟨fun k => ⟨C, fs, ds, d, .one q.h, o.c, o.n, l.h, k⟩⟩
instance s_ins_imm {C : Addr} {fs : List Str} {m : Str} {Q : Prop} : Stp (IsIns M C m (.ins C fs ds) Q) (Pre (m ∉ fs) Q) := ⟨fun k => ⟨fs, ds, .imm, k.1, k.2⟩⟩
instance s_ins_ref {C : Addr} {fs : List Str} {m : Str} {Q : Prop} [q : FindC M a (.ins C fs ds)] : Stp (IsIns M C m (.ref a) Q) (Pre (m ∉ fs) Q) := ⟨fun k => ⟨fs, ds, .one q.h, k.1, k.2⟩⟩
end
/-- what a def is worth at given arguments -/
class FnC {α : Type} (R : List Dt → α → Prop) (ds : List Dt) (pre : outParam Prop) (d : outParam α) : Prop where h : pre → R ds d
def CallV {α : Type} (R : List Dt → α → Prop) (n : Nat) (ds : List Dt) (Ψ : α → Prop) : Prop := ds.length = n ∧ ∃ d, R ds d ∧ Ψ d
instance s_callV {α : Type} {R : List Dt → α → Prop} {n : Nat} {ds : List Dt} {pre : Prop} {d : α} {Ψ : α → Prop} [l : LenN ds n] [f : FnC R ds pre d] : Stp (CallV R n ds Ψ) (Pre pre (Ψ d)) := ⟨fun k => ⟨l.h, d, f.h k.1, k.2⟩⟩
/-- a list that is made and may be changed -/
def Own (B : Fr) (Φ : Dt → Ms → Prop) (c : Cell) (M : Ms) : Prop := ∀ p, p ∉ B.T → Φ (.ref p) (.one p c :: M)
def tOwn (t : TE) : TE := t
theorem pe_own {X : Cx} {e : Expr} {t : TE} (h : PE X e t) : PE X e (tOwn t) := h

section
variable {K : PySem.W.Frag} {B : Fr} {s s' s1 s2 : Sl} {M M' : Ms} {Φ : Dt → Ms → Prop} {ta tb tc te : TE} {r r' : R2} {t : TA} {i j n : Nat} {d x y : Dt} {ds es : List Dt}
/-! ### plain forms -/
instance s_ex_bl {c : Bool} {P : Bool → Prop} : Stp (∃ b, Dt.bl c = Dt.bl b ∧ P b) (P c) := ⟨fun k => ⟨c, rfl, k⟩⟩
instance s_ex_int {c : Int} {P : Int → Prop} : Stp (∃ b, Dt.int c = Dt.int b ∧ P b) (P c) := ⟨fun k => ⟨c, rfl, k⟩⟩
instance s_br {b : Bool} {P Q : Prop} : Stp ((b = true → P) ∧ (b = false → Q)) (Br (b = true) P Q) := ⟨fun k => ⟨k.1, fun e => k.2 (by rw [e]; exact Bool.false_ne_true)⟩⟩
instance s_br2 {b : Bool} {P Q : Prop} : Stp ((b = false → P) ∧ (b = true → Q)) (Br (b = true) Q P) := ⟨fun k => ⟨fun e => k.2 (by rw [e]; exact Bool.false_ne_true), k.1⟩⟩
instance s_br_dec {p A B : Prop} [q : Decidable p] : Stp (Br (decide p = true) A B) (Br p A B) := ⟨fun k => ⟨fun e => k.1 (of_decide_eq_true e), fun e => k.2 fun z => e (decide_eq_true z)⟩⟩
instance s_br_not {b : Bool} {A B : Prop} : Stp (Br ((!b) = true) A B) (Br (b = true) B A) := ⟨fun k => ⟨fun e => k.2 (fun z => by rw [z] at e; cases e), fun e => k.1 (by cases b <;> simp_all)⟩⟩
instance s_br_t {A B : Prop} : Stp (Br (true = true) A B) A := ⟨fun k => ⟨fun _ => k, fun e => absurd rfl e⟩⟩
instance s_br_f {A B : Prop} : Stp (Br (false = true) A B) B := ⟨fun k => ⟨fun e => Bool.noConfusion e, fun _ => k⟩⟩
instance s_sm0 {Q : Prop} : Stp (Pre (([] : List Dt).length < 16777216) Q) Q := ⟨fun k => ⟨by decide, k⟩⟩
instance s_sm1 {a : Dt} {Q : Prop} : Stp (Pre ([a].length < 16777216) Q) Q := ⟨fun k => ⟨by show 1 < _; decide, k⟩⟩
instance s_sm2 {a b : Dt} {Q : Prop} : Stp (Pre ([a, b].length < 16777216) Q) Q := ⟨fun k => ⟨by show 2 < _; decide, k⟩⟩
instance s_sm3 {a b c : Dt} {Q : Prop} : Stp (Pre ([a, b, c].length < 16777216) Q) Q := ⟨fun k => ⟨by show 3 < _; decide, k⟩⟩
instance s_sm4 {a b c d : Dt} {Q : Prop} : Stp (Pre ([a, b, c, d].length < 16777216) Q) Q := ⟨fun k => ⟨by show 4 < _; decide, k⟩⟩
/-! ### expressions -/
instance s_var [l : Look s i d] : Stp (EvW K B (tVar i) s M Φ) (Φ d M) := ⟨fun k => e_var l.h k⟩
instance s_int {i : Int} : Stp (EvW K B (tC (.int i)) s M Φ) (Φ (.int i) M) := ⟨e_int⟩
instance s_bl {b : Bool} : Stp (EvW K B (tC (.bl b)) s M Φ) (Φ (.bl b) M) := ⟨e_bl⟩
instance s_str {x : Str} : Stp (EvW K B (tC (.str x)) s M Φ) (Φ (.str x) M) := ⟨e_str⟩
instance s_non : Stp (EvW K B (tC .non) s M Φ) (Φ .non M) := ⟨e_non⟩
instance s_refC {a : Addr} : Stp (EvW K B (tC (.ref a)) s M Φ) (Φ (.ref a) M) := ⟨fun k => fun G H σ Q L S q => q _ _ M G H L (Ex.refl G) (.ref a) k⟩
instance s_tyC {a : String} : Stp (EvW K B (tC (.ty a)) s M Φ) (Φ (.ty a) M) := ⟨fun k => fun G H σ Q L S q => q _ _ M G H L (Ex.refl G) (.ty a) k⟩
instance s_op : Stp (EvW K B (tOp r ta tb) s M Φ) (EvW K B ta s M fun x M1 => EvW K B tb s M1 fun y M2 => Op2 K B r x y M2 Φ) := ⟨e_op⟩
instance s_un {r : V → Hp → VK → Prop} : Stp (EvW K B (tUn r ta) s M Φ) (EvW K B ta s M fun x M1 => Op1 K B r x M1 Φ) := ⟨e_un⟩
instance s_anil {Φ : List Dt → Ms → Prop} : Stp (EvA K B tNil s M Φ) (Φ [] M) := ⟨a_nil⟩
instance s_acons {Φ : List Dt → Ms → Prop} {tr : TA} : Stp (EvA K B (tCons te tr) s M Φ) (EvW K B te s M fun x M1 => EvA K B tr s M1 fun xs M2 => Φ (x :: xs) M2) := ⟨a_cons⟩
instance s_lst : Stp (EvW K B (tLst t) s M Φ) (EvA K B t s M fun xs M1 => Pre (xs.length < 16777216) (Φ (.lst xs) M1)) := ⟨e_lst⟩
instance s_lstO : Stp (EvW K B (tOwn (tLst t)) s M Φ) (EvA K B t s M fun xs M1 => Pre (xs.length < 16777216) (Own B Φ (.lst xs) M1)) := ⟨e_lstM⟩
instance s_tup : Stp (EvW K B (tTup t) s M Φ) (EvA K B t s M fun xs M1 => Pre (xs.length < 16777216) (Φ (.tup xs) M1)) := ⟨e_tup⟩
instance s_dnewT : Stp (EvW K B tDNewT s M Φ) (Own B Φ (.dT []) M) := ⟨e_dnewT⟩
instance s_dnewK : Stp (EvW K B tDNewK s M Φ) (Own B Φ (.dK []) M) := ⟨e_dnewK⟩
instance s_cb {r : List V → Hp → VK → Prop} : Stp (EvW K B (tCB r t) s M Φ) (EvA K B t s M fun xs M1 => OpN K B r xs M1 Φ) := ⟨e_cb⟩
instance s_bm {T : String} {r : V → List V → Hp → VK → Prop} : Stp (EvW K B (tBM K T r te t) s M Φ) (EvW K B te s M fun x M1 => Pre (TyD K B T x M1) (EvA K B t s M1 fun xs M2 => OpM K B r x xs M2 Φ)) := ⟨e_bm⟩
instance s_bm0 {T : String} {r : V → List V → Hp → VK → Prop} : Stp (EvW K B (tBM0 K T r te) s M Φ) (EvW K B te s M fun x M1 => Pre (TyD K B T x M1) (OpM K B r x [] M1 Φ)) := ⟨e_bm0⟩
instance s_tylist {Q : Prop} [l : SeqC M x ds] : Stp (Pre (TyD K B "list" x M) Q) Q := ⟨fun k => ⟨ty_list l.h, k⟩⟩
instance s_onone {Φ : Option Int → Ms → Prop} : Stp (EvO K B tNoPart s M Φ) (Φ none M) := ⟨o_none⟩
instance s_osome {Φ : Option Int → Ms → Prop} : Stp (EvO K B (tPart te) s M Φ) (EvW K B te s M fun x M1 => ∃ i, x = .int i ∧ Φ (some i) M1) := ⟨o_some⟩
instance s_sl {r : V → Option Int → Option Int → Hp → VK → Prop} {tl th : TO} : Stp (EvW K B (tSl r te tl th) s M Φ) (EvW K B te s M fun x M1 => EvO K B tl s M1 fun l M2 => EvO K B th s M2 fun u M3 => OpS K B r x l u M3 Φ) := ⟨e_sl⟩
instance s_if {tt : TT} : Stp (EvW K B (tIf tt ta tb) s M Φ) (EvT K B tt s M fun b M1 => (b = true → EvW K B ta s M1 Φ) ∧ (b = false → EvW K B tb s M1 Φ)) := ⟨e_if⟩
instance s_andV : Stp (EvW K B (tAndV ta tb) s M Φ) (EvW K B ta s M fun x M1 => ∃ c, x = .bl c ∧ (c = true → EvW K B tb s M1 Φ) ∧ (c = false → Φ (.bl false) M1)) := ⟨e_andV⟩
instance s_orV : Stp (EvW K B (tOrV ta tb) s M Φ) (EvW K B ta s M fun x M1 => ∃ c, x = .bl c ∧ (c = false → EvW K B tb s M1 Φ) ∧ (c = true → Φ (.bl true) M1)) := ⟨e_orV⟩
instance s_notV : Stp (EvW K B (tNotV ta) s M Φ) (EvW K B ta s M fun x M1 => ∃ c, x = .bl c ∧ Φ (.bl (!c)) M1) := ⟨e_notV⟩
instance s_chain : Stp (EvW K B (tChain r r' ta tb tc) s M Φ) (EvW K B ta s M fun x M1 => EvW K B tb s M1 fun y M2 => Op2 K B r x y M2 fun z M3 => ∃ k, z = .bl k ∧ (k = true → EvW K B tc s M3 fun w M4 => Op2 K B r' y w M4 Φ) ∧ (k = false → Φ (.bl false) M3)) := ⟨e_chain⟩
instance s_fld {f : Str} : Stp (EvW K B (tFld K te f) s M Φ) (EvW K B te s M fun x M1 => FldOf K M1 f x fun d => Φ d M1) := ⟨e_fld⟩
/-! ### tests -/
instance s_test {Φ : Bool → Ms → Prop} : Stp (EvT K B (tTest te) s M Φ) (EvW K B te s M fun x M1 => ∃ b, x = .bl b ∧ Φ b M1) := ⟨t_test⟩
instance s_B {Φ : Bool → Ms → Prop} : Stp (EvT K B (tB te) s M Φ) (EvW K B te s M fun x M1 => ∃ b, x = .bl b ∧ Φ b M1) := ⟨t_B⟩
instance s_and {Φ : Bool → Ms → Prop} {t u : TT} : Stp (EvT K B (tAnd t u) s M Φ) (EvT K B t s M fun b M1 => (b = true → EvT K B u s M1 Φ) ∧ (b = false → Φ false M1)) := ⟨t_and⟩
instance s_or {Φ : Bool → Ms → Prop} {t u : TT} : Stp (EvT K B (tOr t u) s M Φ) (EvT K B t s M fun b M1 => (b = false → EvT K B u s M1 Φ) ∧ (b = true → Φ true M1)) := ⟨t_or⟩
instance s_not {Φ : Bool → Ms → Prop} {t : TT} : Stp (EvT K B (tNot t) s M Φ) (EvT K B t s M fun b M1 => Φ (!b) M1) := ⟨t_not⟩
instance s_yes {Φ : Bool → Ms → Prop} : Stp (EvT K B tYes s M Φ) (Φ true M) := ⟨t_yes⟩
/-! ### statements -/
section
variable {nx bk ct : Sl → Ms → Prop} {rt : Dt → Ms → Prop} {ts us : TS} {g : TG}
instance s_seq : Stp (WPs K B (tSeq ts us) ⟨nx, rt, bk, ct⟩ s M) (WPs K B ts ⟨WPs K B us ⟨nx, rt, bk, ct⟩, rt, bk, ct⟩ s M) := ⟨fun k => w_seq (P := ⟨nx, rt, bk, ct⟩) k⟩
instance s_set : Stp (WPs K B (tAsg te (gName i)) ⟨nx, rt, bk, ct⟩ s M) (EvW K B te s M fun d M1 => WPg K B (gName i) d s M1 nx) := ⟨fun k => w_asg (P := ⟨nx, rt, bk, ct⟩) k⟩
instance (priority := low) s_asg : Stp (WPs K B (tAsg te g) ⟨nx, rt, bk, ct⟩ s M) (EvW K B te s M fun d M1 => WPg K B g d s M1 nx) := ⟨fun k => w_asg (P := ⟨nx, rt, bk, ct⟩) k⟩
instance s_gname {Ψ : Sl → Ms → Prop} [l : SetC s i (some d) s'] : Stp (WPg K B (gName i) d s M Ψ) (Ψ s' M) := ⟨fun k => g_name (l.h ▸ k)⟩
instance s_drop : Stp (WPs K B (tDrop te) ⟨nx, rt, bk, ct⟩ s M) (EvW K B te s M fun _ M1 => nx s M1) := ⟨fun k => w_drop (P := ⟨nx, rt, bk, ct⟩) k⟩
instance s_ret : Stp (WPs K B (tRet te) ⟨nx, rt, bk, ct⟩ s M) (EvW K B te s M rt) := ⟨fun k => w_ret (P := ⟨nx, rt, bk, ct⟩) k⟩
instance s_retN : Stp (WPs K B tRetN ⟨nx, rt, bk, ct⟩ s M) (rt .non M) := ⟨fun k => w_retN (P := ⟨nx, rt, bk, ct⟩) k⟩
instance s_next : Stp (WPs K B tNext ⟨nx, rt, bk, ct⟩ s M) (nx s M) := ⟨fun k => w_next (P := ⟨nx, rt, bk, ct⟩) k⟩
instance s_break : Stp (WPs K B tBreak ⟨nx, rt, bk, ct⟩ s M) (bk s M) := ⟨fun k => w_break (P := ⟨nx, rt, bk, ct⟩) k⟩
instance s_cont : Stp (WPs K B tCont ⟨nx, rt, bk, ct⟩ s M) (ct s M) := ⟨fun k => w_cont (P := ⟨nx, rt, bk, ct⟩) k⟩
instance s_ifS {c : TT} : Stp (WPs K B (tIfS c ts us) ⟨nx, rt, bk, ct⟩ s M) (EvT K B c s M fun b M1 => (b = true → WPs K B ts ⟨nx, rt, bk, ct⟩ s M1) ∧ (b = false → WPs K B us ⟨nx, rt, bk, ct⟩ s M1)) := ⟨fun k => w_if (P := ⟨nx, rt, bk, ct⟩) k⟩
/-- slots written plainly -/
instance (priority := high) s_slE {vs : List Nat} {x : Option Dt} [l : WipeC s vs s1] [m : SetC s1 j x s2] : Stp (EvW K B te ((wipeS s vs).set j x) M Φ) (EvW K B te s2 M Φ) := ⟨fun k => by rw [l.h, m.h]; exact k⟩
instance (priority := high) s_slT {vs : List Nat} {x : Option Dt} {tt : TT} {Φ : Bool → Ms → Prop} [l : WipeC s vs s1] [m : SetC s1 j x s2] : Stp (EvT K B tt ((wipeS s vs).set j x) M Φ) (EvT K B tt s2 M Φ) := ⟨fun k => by rw [l.h, m.h]; exact k⟩
end
/-! ### operations -/
section
variable {i j : Int} {k k' : Bool} {p : Addr}
instance s_add : Stp (Op2 K B rPlus (.int i) (.int j) M Φ) (Φ (.int (i + j)) M) := ⟨p_add⟩
instance s_sub : Stp (Op2 K B rSubN (.int i) (.int j) M Φ) (Φ (.int (i - j)) M) := ⟨p_sub⟩
instance s_mul : Stp (Op2 K B rMulN (.int i) (.int j) M Φ) (Pre ((-18446744073709551616 < i ∧ i < 18446744073709551616) ∨ (-18446744073709551616 < j ∧ j < 18446744073709551616)) (Φ (.int (i * j)) M)) := ⟨fun k => p_mul k.1 k.2⟩
instance s_div : Stp (Op2 K B rDivN (.int i) (.int j) M Φ) (Pre (0 < j ∧ j < 1073741824) (Φ (.int (i / j)) M)) := ⟨fun k => p_div k.1 k.2⟩
instance s_mod : Stp (Op2 K B rModN (.int i) (.int j) M Φ) (Pre (0 < j) (Φ (.int (i % j)) M)) := ⟨fun k => p_mod k.1 k.2⟩
instance s_lt : Stp (Op2 K B rLtN (.int i) (.int j) M Φ) (Φ (.bl (decide (i < j))) M) := ⟨p_lt⟩
instance s_le : Stp (Op2 K B rLeN (.int i) (.int j) M Φ) (Φ (.bl (decide (i ≤ j))) M) := ⟨p_le⟩
instance s_gt : Stp (Op2 K B rGtN (.int i) (.int j) M Φ) (Φ (.bl (decide (j < i))) M) := ⟨p_gt⟩
instance s_ge : Stp (Op2 K B rGeN (.int i) (.int j) M Φ) (Φ (.bl (decide (j ≤ i))) M) := ⟨p_ge⟩
instance s_eqI : Stp (Op2 K B (rEqD K) (.int i) (.int j) M Φ) (Φ (.bl (decide (i = j))) M) := ⟨p_eqI⟩
instance s_neI : Stp (Op2 K B (rNeD K) (.int i) (.int j) M Φ) (Φ (.bl (decide (i ≠ j))) M) := ⟨p_neI⟩
instance s_eqB : Stp (Op2 K B (rEqD K) (.bl k) (.bl k') M Φ) (Φ (.bl (k == k')) M) := ⟨p_eqB⟩
instance s_neB : Stp (Op2 K B (rNeD K) (.bl k) (.bl k') M Φ) (Φ (.bl (k != k')) M) := ⟨p_neB⟩
instance s_isN : Stp (Op2 K B rIsNo .non .non M Φ) (Φ (.bl true) M) := ⟨p_isN_yes⟩
instance s_isntN : Stp (Op2 K B rIsntNo .non .non M Φ) (Φ (.bl false) M) := ⟨p_isntN_yes⟩
instance s_isNi : Stp (Op2 K B rIsNo (.int i) .non M Φ) (Φ (.bl false) M) := ⟨p_isN_no (fun z => by cases z)⟩
instance s_isntNi : Stp (Op2 K B rIsntNo (.int i) .non M Φ) (Φ (.bl true) M) := ⟨p_isntN_no (fun z => by cases z)⟩
instance s_isNb : Stp (Op2 K B rIsNo (.bl k) .non M Φ) (Φ (.bl false) M) := ⟨p_isN_no (fun z => by cases z)⟩
instance s_isntNb : Stp (Op2 K B rIsntNo (.bl k) .non M Φ) (Φ (.bl true) M) := ⟨p_isntN_no (fun z => by cases z)⟩
instance s_isNl : Stp (Op2 K B rIsNo (.lst ds) .non M Φ) (Φ (.bl false) M) := ⟨p_isN_no (fun z => by cases z)⟩
instance s_isntNl : Stp (Op2 K B rIsntNo (.lst ds) .non M Φ) (Φ (.bl true) M) := ⟨p_isntN_no (fun z => by cases z)⟩
instance s_isNr : Stp (Op2 K B rIsNo (.ref p) .non M Φ) (Φ (.bl false) M) := ⟨p_isN_no (fun z => by cases z)⟩
instance s_isntNr : Stp (Op2 K B rIsntNo (.ref p) .non M Φ) (Φ (.bl true) M) := ⟨p_isntN_no (fun z => by cases z)⟩
instance s_cat {es : List Dt} [l1 : LstC M x ds] [l2 : LstC M y es] {n m : Nat} [e1 : LenOf ds n] [e2 : LenOf es m] : Stp (Op2 K B rPlus x y M Φ) (Pre (n + m < 16777216) (Φ (.lst (ds ++ es)) M)) := ⟨fun k => p_cat l1.h l2.h (by rw [e1.h, e2.h]; exact k.1) (fz k.2)⟩
def Op2O (K : PySem.W.Frag) (B : Fr) (r : R2) (x y : Dt) (M : Ms) (Φ : Dt → Ms → Prop) : Prop := Op2 K B r x y M Φ
instance s_opO : Stp (EvW K B (tOwn (tOp r ta tb)) s M Φ) (EvW K B ta s M fun x M1 => EvW K B tb s M1 fun y M2 => Op2O K B r x y M2 Φ) := ⟨e_op⟩
instance s_catO {es : List Dt} [l1 : LstC M x ds] [l2 : LstC M y es] {n m : Nat} [e1 : LenOf ds n] [e2 : LenOf es m] : Stp (Op2O K B rPlus x y M Φ) (Pre (n + m < 16777216) (Own B Φ (.lst (ds ++ es)) M)) := ⟨fun k => p_cat l1.h l2.h (by rw [e1.h, e2.h]; exact k.1) (fzM k.2)⟩
/- items -/
instance s_ixL [l : SeqC M x ds] : Stp (Op2 K B (rIx K) x (.int i) M Φ) (Ix ds i fun d => Φ d M) := ⟨fun ⟨d, h, k⟩ => p_ixL l.h h k⟩
instance s_ixT : Stp (Op2 K B (rIx K) (.tup ds) (.int i) M Φ) (Ix ds i fun d => Φ d M) := ⟨fun ⟨d, h, k⟩ => p_ixT h k⟩
instance (priority := low) s_ix_map {α : Type} [Inhabited α] {f : α → Dt} {l : List α} {Ψ : Dt → Prop} : Stp (Ix (l.map f) i Ψ) (Pre (0 ≤ i ∧ i < (l.length : Nat)) (Ψ (f (gt l i)))) := ⟨fun k => ⟨_, at_map default k.1.1 k.1.2, k.2⟩⟩
instance s_ix_last {α : Type} [Inhabited α] {f : α → Dt} {l : List α} {Ψ : Dt → Prop} : Stp (Ix (l.map f) (-1) Ψ) (Pre (l ≠ []) (Ψ (f (l.getLastD default)))) := ⟨fun k => by
  have hl := k.1
  refine ⟨_, at_neg1 (by simpa using hl) ?_, k.2⟩
  rw [List.getLast_map, List.getLastD_eq_getLast?, List.getLast?_eq_some_getLast hl]
  rfl⟩
instance s_ix0 {Ψ : Dt → Prop} : Stp (Ix (d :: ds) 0 Ψ) (Ψ d) := ⟨fun k => ⟨d, at_nat (by decide) rfl, k⟩⟩
instance s_ix1 {e : Dt} {Ψ : Dt → Prop} : Stp (Ix (d :: e :: ds) 1 Ψ) (Ψ e) := ⟨fun k => ⟨e, at_nat (by decide) rfl, k⟩⟩
instance s_append [f : FindC M p (.lst ds)] [u : PutC M p (.lst ds) (.lst (ds ++ [d])) M'] {n : Nat} [e : LenOf ds n] : Stp (OpM K B rAppend (.ref p) [d] M Φ) (Pre (n < 16777216) (Φ .non M')) := ⟨fun k => m_append (.one u.h) (by rw [e.h]; exact k.1) k.2⟩
instance s_clear [f : FindC M p (.lst ds)] [u : PutC M p (.lst ds) (.lst []) M'] : Stp (OpM K B rClear (.ref p) [] M Φ) (Φ .non M') := ⟨fun k => m_clear (.one u.h) k⟩
/- calls of built-ins -/
instance s_lenL {n : Nat} [l : SeqC M x ds] [e : LenOf ds n] : Stp (OpN K B (rLen K) [x] M Φ) (Φ (.int (n : Nat)) M) := ⟨fun k => c_lenL l.h (by rw [e.h]; exact k)⟩
instance s_lenT {n : Nat} [e : LenOf ds n] : Stp (OpN K B (rLen K) [.tup ds] M Φ) (Φ (.int (n : Nat)) M) := ⟨fun k => c_lenT (by rw [e.h]; exact k)⟩
instance s_listL [l : SeqC M x ds] : Stp (OpN K B (rListOf K) [x] M Φ) (Φ (.lst ds) M) := ⟨fun k => c_listL l.h (fz k)⟩
instance s_listT : Stp (OpN K B (rListOf K) [.tup ds] M Φ) (Φ (.lst ds) M) := ⟨fun k => c_listT (fz k)⟩
instance s_tupL [l : SeqC M x ds] : Stp (OpN K B (rTupOf K) [x] M Φ) (Φ (.tup ds) M) := ⟨c_tupL l.h⟩
instance s_intI : Stp (OpN K B rInt1 [.int i] M Φ) (Φ (.int i) M) := ⟨c_intI⟩
instance s_intB : Stp (OpN K B rInt1 [.bl k] M Φ) (Φ (.int (if k then 1 else 0)) M) := ⟨c_intB⟩
theorem max_if {i j : Int} : (if j > i then j else i) = max i j := by split <;> omega
theorem min_if {i j : Int} : (if j < i then j else i) = min i j := by split <;> omega
instance s_max : Stp (OpN K B rMax2 [.int i, .int j] M Φ) (Φ (.int (max i j)) M) := ⟨fun k => c_max (by rw [max_if]; exact k)⟩
instance s_min : Stp (OpN K B rMin2 [.int i, .int j] M Φ) (Φ (.int (min i j)) M) := ⟨fun k => c_min (by rw [min_if]; exact k)⟩
def OpNO (K : PySem.W.Frag) (B : Fr) (r : List V → Hp → VK → Prop) (xs : List Dt) (M : Ms) (Φ : Dt → Ms → Prop) : Prop := OpN K B r xs M Φ
instance s_cbO {r : List V → Hp → VK → Prop} : Stp (EvW K B (tOwn (tCB r t)) s M Φ) (EvA K B t s M fun xs M1 => OpNO K B r xs M1 Φ) := ⟨e_cb⟩
instance s_listLO [l : SeqC M x ds] : Stp (OpNO K B (rListOf K) [x] M Φ) (Own B Φ (.lst ds) M) := ⟨fun k => c_listL l.h (fzM k)⟩
instance s_listTO : Stp (OpNO K B (rListOf K) [.tup ds] M Φ) (Own B Φ (.lst ds) M) := ⟨fun k => c_listT (fzM k)⟩
end
/-! ### own calls that do not raise -/
section
variable {W : WX} {R : List Dt → Dt → Prop} {RL : List Dt → List Dt → Prop} {C : Addr} {m : Str}
theorem call_coreV {M1 : Ms} {ds : List Dt} (hn : ds.length = n) {d : Dt} (hr : R ds d) (k : Φ d M1) {G H : Hp} {σ : L2.St} {vs : List V} {Q : VK} (L : Lay K B G M1 H) (r : RepAll K G vs ds)
    (q : ∀ v d M' G' H', Lay K B G' M' H' → Ex G G' → Rep K G' v d → Φ d M' → Q v H') : spG K n (fnV R) vs H Q (fun cls d H => W cls d σ H) := by
  refine ⟨r.len.trans hn, G, [], ds, fun d' M' => d' = d ∧ M' = [], fun _ _ => False, (show Lay K B G ([] ++ M1) H from L).enter, r, ⟨rfl, d, hr, rfl, rfl⟩, fun v d' M' G' H' L' r' kk => ?_, fun _ _ _ _ _ k => k.elim⟩
  obtain ⟨rfl, rfl⟩ := kk
  have Lb : Lay K B G' ([] ++ M1) H' := Lay.back (Ma := []) L L'
  exact q _ _ _ _ _ Lb (L'.grown L.sub) r' k
theorem call_coreL0 {M1 : Ms} {ds : List Dt} (hn : ds.length = n) {es : List Dt} (hr : RL ds es) (k : ∀ p, p ∉ B.T → (Fz B Φ (.ref p) (.one p (.lst es) :: M1) ∨ Φ (.ref p) (.one p (.lst es) :: M1)))
    {G H : Hp} {σ : L2.St} {vs : List V} {Q : VK} (L : Lay K B G M1 H) (r : RepAll K G vs ds) (q : ∀ v d M' G' H', Lay K B G' M' H' → Ex G G' → Rep K G' v d → Φ d M' → Q v H') :
    spG K n (fnL RL) vs H Q (fun cls d H => W cls d σ H) := by
  refine ⟨r.len.trans hn, G, [], ds, fun d M' => ∃ p, d = .ref p ∧ M' = [.one p (.lst es)], fun _ _ => False, (show Lay K B G ([] ++ M1) H from L).enter, r, ⟨rfl, es, hr, fun p => ⟨p, rfl, rfl⟩⟩, fun v d M' G' H' L' r' kk => ?_, fun _ _ _ _ _ k => k.elim⟩
  obtain ⟨p, rfl, rfl⟩ := kk
  have Lb : Lay K B G' ([.one p (.lst es)] ++ M1) H' := Lay.back (Ma := []) L L'
  have hp : H p = none := (L'.new p (by simp [fpM, Ent.fp])).resolve_left (by simp [fpM])
  have hT : p ∉ B.T := fun z => L.freshM hp (L.tin p z)
  rw [r'.refOf]
  exact lc_end hT ⟨G', Lb, L'.grown L.sub⟩ (k p hT) q
instance s_callVs : Stp (EvW K B (tCallS (spG K n (fnV R)) (WE W) t) s M Φ) (EvA K B t s M fun ds M1 => CallV R n ds fun d => Φ d M1) := ⟨fun h => fun G H σ Q L S q =>
  h G H σ _ L S fun vs ds M' G' H' L' e r ⟨hn, d, hr, k⟩ => call_coreV hn hr k L' r fun v d M2 G2 H2 L2 e2 => q v d M2 G2 H2 L2 (e.trans e2)⟩
instance s_callLs : Stp (EvW K B (tCallS (spG K n (fnL RL)) (WE W) t) s M Φ) (EvA K B t s M fun ds M1 => CallV RL n ds fun es => Φ (.lst es) M1) := ⟨fun h => fun G H σ Q L S q =>
  h G H σ _ L S fun vs ds M' G' H' L' e r ⟨hn, d, hr, k⟩ => call_coreL0 hn hr (fz k) L' r fun v d M2 G2 H2 L2 e2 => q v d M2 G2 H2 L2 (e.trans e2)⟩
instance s_callLsO : Stp (EvW K B (tOwn (tCallS (spG K n (fnL RL)) (WE W) t)) s M Φ) (EvA K B t s M fun ds M1 => CallV RL n ds fun es => Own B Φ (.lst es) M1) := ⟨fun h => fun G H σ Q L S q =>
  h G H σ _ L S fun vs ds M' G' H' L' e r ⟨hn, d, hr, k⟩ => call_coreL0 hn hr (fzM k) L' r fun v d M2 G2 H2 L2 e2 => q v d M2 G2 H2 L2 (e.trans e2)⟩
theorem e_methV0 (h : EvW K B te s M fun o M1 => IsIns M1 C m o (EvA K B t s M1 fun as M2 => CallV R n (o :: as) fun d => Φ d M2)) : EvW K B (tMethS C m (spG K n (fnV R)) (WE W) te t) s M Φ := fun G H σ Q L S q =>
  h G H σ _ L S fun v o M' G' H' L' e r h' => by
    obtain ⟨fs, ds, i, hm, h'⟩ := h'
    obtain ⟨a, dx, vs, rfl, ea, l, _⟩ := i.at L' r
    refine ⟨a, dx, _, rfl, ea, lookF_none hm, h' G' H' σ _ L' (S.mono e) fun vs as M2 G2 H2 L2 e2 rs ⟨hn, d, hr, k⟩ => ?_⟩
    exact call_coreV hn hr k L2 (.cons (r.mono e2) rs) fun v d M3 G3 H3 L3 e3 => q v d M3 G3 H3 L3 ((e.trans e2).trans e3)
theorem e_methL0 (h : EvW K B te s M fun o M1 => IsIns M1 C m o (EvA K B t s M1 fun as M2 => CallV RL n (o :: as) fun es => ∀ p, p ∉ B.T → (Fz B Φ (.ref p) (.one p (.lst es) :: M2) ∨ Φ (.ref p) (.one p (.lst es) :: M2)))) : EvW K B (tMethS C m (spG K n (fnL RL)) (WE W) te t) s M Φ := fun G H σ Q L S q =>
  h G H σ _ L S fun v o M' G' H' L' e r h' => by
    obtain ⟨fs, ds, i, hm, h'⟩ := h'
    obtain ⟨a, dx, vs, rfl, ea, l, _⟩ := i.at L' r
    refine ⟨a, dx, _, rfl, ea, lookF_none hm, h' G' H' σ _ L' (S.mono e) fun vs as M2 G2 H2 L2 e2 rs ⟨hn, es, hr, k⟩ => ?_⟩
    exact call_coreL0 hn hr k L2 (.cons (r.mono e2) rs) fun v d M3 G3 H3 L3 e3 => q v d M3 G3 H3 L3 ((e.trans e2).trans e3)
theorem isIns_mono {x : Dt} {P Q : Prop} (h : IsIns M C m x P) (k : P → Q) : IsIns M C m x Q := by
  obtain ⟨fs, ds, i, hm, p⟩ := h; exact ⟨fs, ds, i, hm, k p⟩
theorem a_mono {Φ Φ' : List Dt → Ms → Prop} (h : EvA K B t s M Φ) (k : ∀ d M, Φ d M → Φ' d M) : EvA K B t s M Φ' := fun G H σ Q L S q => h G H σ Q L S fun v d M' G' H' L' e r p => q v d M' G' H' L' e r (k d M' p)
theorem callV_mono {α : Type} {R : List Dt → α → Prop} {n : Nat} {ds : List Dt} {P Q : α → Prop} (h : CallV R n ds P) (k : ∀ a, P a → Q a) : CallV R n ds Q := by
  obtain ⟨hn, d, hr, p⟩ := h; exact ⟨hn, d, hr, k d p⟩
instance s_methVs : Stp (EvW K B (tMethS C m (spG K n (fnV R)) (WE W) te t) s M Φ) (EvW K B te s M fun o M1 => IsIns M1 C m o (EvA K B t s M1 fun as M2 => CallV R n (o :: as) fun d => Φ d M2)) := ⟨e_methV0⟩
instance s_methLs : Stp (EvW K B (tMethS C m (spG K n (fnL RL)) (WE W) te t) s M Φ) (EvW K B te s M fun o M1 => IsIns M1 C m o (EvA K B t s M1 fun as M2 => CallV RL n (o :: as) fun es => Φ (.lst es) M2)) := ⟨fun h => e_methL0 (e_mono h fun o M1 i => isIns_mono i fun a => a_mono a fun as M2 c => callV_mono c fun es k => fz k)⟩
instance s_methLsO : Stp (EvW K B (tOwn (tMethS C m (spG K n (fnL RL)) (WE W) te t)) s M Φ) (EvW K B te s M fun o M1 => IsIns M1 C m o (EvA K B t s M1 fun as M2 => CallV RL n (o :: as) fun es => Own B Φ (.lst es) M2)) := ⟨fun h => e_methL0 (e_mono h fun o M1 i => isIns_mono i fun a => a_mono a fun as M2 c => callV_mono c fun es k => fzM k)⟩
end
/-! ### comprehensions -/
def LcD (K : PySem.W.Frag) (B : Fr) (te : TE) (s : Sl) (vs : List Nat) (j : Nat) (ds : List Dt) (M1 : Ms) (fin : List Dt → Prop) : Prop := j ∈ vs ∧ ∃ es : List Dt, es.length = ds.length ∧ ds.length < 16777216 ∧
  (∀ (i : Nat) d p acc, ds[i]? = some d → p ∉ B.T → EvW K B te ((wipeS s vs).set j (some d)) (.one p (.lst acc) :: M1) fun e M3 => M3 = .one p (.lst acc) :: M1 ∧ es[i]? = some e) ∧ fin es
theorem lcD_map {vs : List Nat} {α : Type} {l : List α} {f : α → Dt} {fin : List Dt → Prop} (g : α → Dt) (hj : j ∈ vs) (hz : l.length < 16777216)
    (hs : ∀ a p acc, a ∈ l → p ∉ B.T → EvW K B te ((wipeS s vs).set j (some (f a))) (.one p (.lst acc) :: M) fun e M3 => M3 = .one p (.lst acc) :: M ∧ g a = e) (k : fin (l.map g)) : LcD K B te s vs j (l.map f) M fin := by
  refine ⟨hj, l.map g, by simp, by simpa using hz, fun i d p acc hd hp => ?_, k⟩
  obtain ⟨a, ha, rfl⟩ := of_get_map hd
  refine e_mono (hs a p acc (List.mem_of_getElem? ha) hp) fun e M3 q => ⟨q.1, ?_⟩
  rw [← q.2]; exact get_map ha
def rngI (n : Int) : List Dt := (List.range n.toNat).map fun i : Nat => Dt.int (i : Int)
instance s_lcL {tl : TE} {vs : List Nat} : Stp (EvW K B (tLc (iList K tl) (gName j) tYes te vs) s M Φ) (EvW K B tl s M fun x M1 => ∃ ds, SeqD M1 ds x ∧ LcD K B te s vs j ds M1 fun es => Φ (.lst es) M1) := ⟨fun h => e_lcL (e_mono h fun x M1 q => by
  obtain ⟨ds, hs, hj, es, hn, hz, ht, k⟩ := q
  exact ⟨ds, hs, hj, lc_all es hn hz (fun i d p hi hd hp => ht i d p _ hd hp) fun q hq => lc_frz hq k⟩)⟩
instance s_lcLO {tl : TE} {vs : List Nat} : Stp (EvW K B (tOwn (tLc (iList K tl) (gName j) tYes te vs)) s M Φ) (EvW K B tl s M fun x M1 => ∃ ds, SeqD M1 ds x ∧ LcD K B te s vs j ds M1 fun es => Own B Φ (.lst es) M1) := ⟨fun h => e_lcL (e_mono h fun x M1 q => by
  obtain ⟨ds, hs, hj, es, hn, hz, ht, k⟩ := q
  exact ⟨ds, hs, hj, lc_all es hn hz (fun i d p hi hd hp => ht i d p _ hd hp) fun q hq => .inr (k q hq)⟩)⟩
instance s_ex_seq {P : List Dt → Prop} [l : SeqC M x ds] : Stp (∃ ds, SeqD M ds x ∧ P ds) (P ds) := ⟨fun k => ⟨ds, l.h, k⟩⟩
instance s_lcT {tl : TE} {vs : List Nat} : Stp (EvW K B (tLc (iTup K tl) (gName j) tYes te vs) s M Φ) (EvW K B tl s M fun x M1 => ∃ ds, x = .tup ds ∧ LcD K B te s vs j ds M1 fun es => Φ (.lst es) M1) := ⟨fun h => e_lcT (e_mono h fun x M1 q => by
  obtain ⟨ds, hs, hj, es, hn, hz, ht, k⟩ := q
  exact ⟨ds, hs, hj, lc_all es hn hz (fun i d p hi hd hp => ht i d p _ hd hp) fun q hq => lc_frz hq k⟩)⟩
instance s_ex_tup {P : List Dt → Prop} : Stp (∃ es, Dt.tup ds = Dt.tup es ∧ P es) (P ds) := ⟨fun k => ⟨ds, rfl, k⟩⟩
theorem lcR_core {tl : TA} {vs : List Nat} (h : EvA K B tl s M fun xs M1 => ∃ n : Int, xs = [.int n] ∧ Pre (-1000000000 < n) (LcD K B te s vs j (rngI n) M1 fun es => ∀ p, p ∉ B.T → (Fz B Φ (.ref p) (.one p (.lst es) :: M1) ∨ Φ (.ref p) (.one p (.lst es) :: M1)))) : EvW K B (tLc (iRng1 tl) (gName j) tYes te vs) s M Φ :=
  e_lcR (a_mono h fun xs M1 q => by
    obtain ⟨n, hs, h0, hj, es, hn, hz, ht, k⟩ := q
    have hl : (rngI n).length = n.toNat := by simp [rngI]
    refine ⟨n, hs, ⟨by omega, by omega⟩, hj, lc_all es (hn.trans hl) (hl ▸ hz) (fun i d p hi hd hp => ht i d p _ ?_ hp) k⟩
    rw [hd]; unfold rngI; rw [List.getElem?_map, List.getElem?_range hi]; rfl)
instance s_lcR {tl : TA} {vs : List Nat} : Stp (EvW K B (tLc (iRng1 tl) (gName j) tYes te vs) s M Φ) (EvA K B tl s M fun xs M1 => ∃ n : Int, xs = [.int n] ∧ Pre (-1000000000 < n) (LcD K B te s vs j (rngI n) M1 fun es => Φ (.lst es) M1)) := ⟨fun h => lcR_core (a_mono h fun xs M1 q => by
  obtain ⟨n, hs, h0, hj, es, hn, hz, ht, k⟩ := q
  exact ⟨n, hs, h0, hj, es, hn, hz, ht, fz k⟩)⟩
instance s_lcRO {tl : TA} {vs : List Nat} : Stp (EvW K B (tOwn (tLc (iRng1 tl) (gName j) tYes te vs)) s M Φ) (EvA K B tl s M fun xs M1 => ∃ n : Int, xs = [.int n] ∧ Pre (-1000000000 < n) (LcD K B te s vs j (rngI n) M1 fun es => Own B Φ (.lst es) M1)) := ⟨fun h => lcR_core (a_mono h fun xs M1 q => by
  obtain ⟨n, hs, h0, hj, es, hn, hz, ht, k⟩ := q
  exact ⟨n, hs, h0, hj, es, hn, hz, ht, fzM k⟩)⟩
instance s_ex_rng {P : Int → Prop} {n : Int} : Stp (∃ m, [Dt.int n] = [Dt.int m] ∧ P m) (P n) := ⟨fun k => ⟨n, rfl, k⟩⟩
end
end Ask
/-! Raising, new instances, kinds, loops, by steps. -/
namespace Ask
open PySem L2

class XOkC (K : PySem.W.Frag) (B : Fr) (W : WX) (Ξ : outParam (Addr → Sl → Ms → Prop)) : Prop where h : XOk K B W Ξ
/-- comes back with .. | raises .. -/
def fnX (R : List Dt → Except Addr Dt → Prop) : FT := fun ds M Φ Ξ => M = [] ∧ ∃ r, R ds r ∧ (∀ d, r = .ok d → Φ d []) ∧ ∀ C, r = .error C → Ξ C []
/-- __init__ of an instance that stays as it is -/
def fnI (C : Addr) (R : List Dt → Except Addr (List Str × List Dt) → Prop) : FT := fun ds M Φ Ξ => ∃ p as r, ds = .ref p :: as ∧ M = [.one p (.ins C [] [])] ∧ R as r ∧ (∀ q, r = .ok q → Φ .non [.one p (.ins C q.1 q.2)]) ∧ ∀ X, r = .error X → Ξ X [.one p (.ins C [] [])]
def ResX {α : Type} (r : Except Addr α) (A : α → Prop) (E : Addr → Prop) : Prop := (∀ d, r = .ok d → A d) ∧ ∀ C, r = .error C → E C
instance s_res_ok {α : Type} {d : α} {A : α → Prop} {E : Addr → Prop} : Stp (ResX (.ok d) A E) (A d) := ⟨fun k => ⟨(fun _ e => by cases e; exact k), (fun _ e => by cases e)⟩⟩
instance s_res_er {α : Type} {C : Addr} {A : α → Prop} {E : Addr → Prop} : Stp (ResX (.error C) A E) (E C) := ⟨fun k => ⟨(fun _ e => by cases e), (fun _ e => by cases e; exact k)⟩⟩
instance s_res_if {α : Type} {p : Prop} [q : Decidable p] {a b : Except Addr α} {A : α → Prop} {E : Addr → Prop} : Stp (ResX (if p then a else b) A E) (Br p (ResX a A E) (ResX b A E)) := ⟨fun k => by
  by_cases h : p
  · rw [if_pos h]; exact k.1 h
  · rw [if_neg h]; exact k.2 h⟩
def ResI {α β : Type} (r : Except Addr (α × β)) (A : α → β → Prop) (E : Addr → Prop) : Prop := ResX r (fun q => A q.1 q.2) E
instance s_resi_ok {α β : Type} {d : α} {e : β} {A : α → β → Prop} {E : Addr → Prop} : Stp (ResI (.ok (d, e)) A E) (A d e) := ⟨fun k => ⟨(fun _ e => by cases e; exact k), (fun _ e => by cases e)⟩⟩
instance s_resi_er {α β : Type} {C : Addr} {A : α → β → Prop} {E : Addr → Prop} : Stp (ResI (.error C) A E) (E C) := ⟨fun k => ⟨(fun _ e => by cases e), (fun _ e => by cases e; exact k)⟩⟩
instance s_resi_if {α β : Type} {p : Prop} [q : Decidable p] {a b : Except Addr (α × β)} {A : α → β → Prop} {E : Addr → Prop} : Stp (ResI (if p then a else b) A E) (Br p (ResI a A E) (ResI b A E)) := ⟨fun k => (s_res_if (p := p) (a := a) (b := b)).imp k⟩
theorem Lay.forget {K : PySem.W.Frag} {B : Fr} {G H : Hp} {M : Ms} {p : Addr} {c : Cell} (L : Lay K B G (.one p c :: M) H) (ht : p ∉ B.T) : Lay K B G M H := by
  have nd := L.nd
  rw [fpM_cons] at nd
  have hM : ∀ a ∈ fpM M, a ∈ fpM (.one p c :: M) := fun a h => by rw [fpM_cons]; exact List.mem_cons_of_mem _ h
  refine ⟨L.sub, (List.nodup_cons.mp nd).2, fun a ha => L.free a (hM a ha), fun e he => L.ats e (List.mem_cons_of_mem _ he), L.keep, L.gfix, fun a ha => L.new a (hM a ha), fun a ha => ?_⟩
  have h := L.tin a ha
  rw [fpM_cons] at h
  rcases List.mem_cons.mp h with q | q
  · exact absurd (q ▸ ha) ht
  · exact q
section
variable {K : PySem.W.Frag} {B : Fr} {s s' s1 s2 : Sl} {M M' : Ms} {Φ : Dt → Ms → Prop} {ta tb tc te : TE} {r r' : R2} {t : TA} {i j n : Nat} {d x y : Dt} {ds es : List Dt}
  {W : WX} {Ξ : Addr → Sl → Ms → Prop} {C : Addr} {m : Str} {R : List Dt → Except Addr Dt → Prop} {RI : List Dt → Except Addr (List Str × List Dt) → Prop}
theorem call_coreX [z : XOkC K B W Ξ] {M1 : Ms} (hn : ds.length = n) {r : Except Addr Dt} (hr : R ds r) (k : ResX r (fun d => Φ d M1) fun C => Ξ C s M1) {G H : Hp} {σ : L2.St} {vs : List V} {Q : VK} (L : Lay K B G M1 H) (S : Slots K G σ s) (rp : RepAll K G vs ds)
    (q : ∀ v d M' G' H', Lay K B G' M' H' → Ex G G' → Rep K G' v d → Φ d M' → Q v H') : spG K n (fnX R) vs H Q (fun cls d H => W cls d σ H) :=
  call_core (Ma := []) (Mr := M1) z.h hn (.refl _) ⟨rfl, r, hr, k.1, k.2⟩ L S rp q
instance s_callXs [z : XOkC K B W Ξ] : Stp (EvW K B (tCallS (spG K n (fnX R)) (WE W) t) s M Φ) (EvA K B t s M fun ds M1 => CallV R n ds fun r => ResX r (fun d => Φ d M1) fun C => Ξ C s M1) := ⟨fun h => fun G H σ Q L S q =>
  h G H σ _ L S fun vs ds M' G' H' L' e rp ⟨hn, r, hr, k⟩ => call_coreX hn hr k L' (S.mono e) rp fun v d M2 G2 H2 L2 e2 => q v d M2 G2 H2 L2 (e.trans e2)⟩
instance s_methXs [z : XOkC K B W Ξ] : Stp (EvW K B (tMethS C m (spG K n (fnX R)) (WE W) te t) s M Φ) (EvW K B te s M fun o M1 => IsIns M1 C m o (EvA K B t s M1 fun as M2 => CallV R n (o :: as) fun r => ResX r (fun d => Φ d M2) fun C => Ξ C s M2)) := ⟨fun h => fun G H σ Q L S q =>
  h G H σ _ L S fun v o M' G' H' L' e r h' => by
    obtain ⟨fs, ds, i, hm, h'⟩ := h'
    obtain ⟨a, dx, vs, rfl, ea, l, _⟩ := i.at L' r
    refine ⟨a, dx, _, rfl, ea, lookF_none hm, h' G' H' σ _ L' (S.mono e) fun vs as M2 G2 H2 L2 e2 rs ⟨hn, d, hr, k⟩ => ?_⟩
    exact call_coreX hn hr k L2 (S.mono (e.trans e2)) (.cons (r.mono e2) rs) fun v d M3 G3 H3 L3 e3 => q v d M3 G3 H3 L3 ((e.trans e2).trans e3)⟩
theorem e_makeI [z : XOkC K B W Ξ] (h : EvA K B t s M fun as M1 => ∃ r, as.length + 1 = n ∧ RI as r ∧ ResX r (fun q => Φ (.ins C q.1 q.2) M1) fun X => Ξ X s M1) : EvW K B (tMakeS C (spG K n (fnI C RI)) (WE W) t) s M Φ := by
  refine fun G H σ Q L S q => h G H σ _ L S fun vs as M' G' H' L' e r h' p dx hp hdx hne => ?_
  obtain ⟨rr, hn, hr, k1, k2⟩ := h'
  have hpT : p ∉ B.T := fun z => L'.freshM hp (L'.tin p z)
  have Ld := L'.laid0 (o := .own p) hdx
  have hp' : upd H' dx (.own p) p = none := by rw [upd_ne hne.symm]; exact hp
  have Lx : Lay K B G' (.one p (.ins C [] []) :: M') (upd (upd H' dx (.own p)) p (.ins C dx [])) := Ld.laidM (c := .ins C [] []) hp' ⟨dx, [], upd_same, rfl, .nil⟩
  refine call_core (n := n) (F := fnI C RI) (ds := .ref p :: as) (Ma := [.one p (.ins C [] [])]) (Mr := M') (Φ := fun d M2 => d = .non ∧ ∃ f, rr = .ok f ∧ M2 = .one p (.ins C f.1 f.2) :: M') (Ξc := fun X s2 M2 => s2 = s ∧ rr = .error X ∧ M2 = .one p (.ins C [] []) :: M') (fun X s2 M2 G2 H2 σ2 L2 S2 k => ?_) (by simpa using hn) (.refl _)
    ⟨p, as, rr, rfl, rfl, hr, fun f e => ⟨rfl, f, e, rfl⟩, fun X e => ⟨rfl, e, rfl⟩⟩ Lx (S.mono e) (.cons (.ref p) r) fun v d M2 G2 H2 L2 e2 r2 k => ?_
  · obtain ⟨rfl, e, rfl⟩ := k
    exact z.h X s2 M' G2 H2 σ2 (L2.forget hpT) S2 (k2 X e)
  · obtain ⟨rfl, f, e3, rfl⟩ := k
    obtain ⟨G3, L3, e4, r4⟩ := freeze_ins hpT L2
    exact ⟨r2.nonOf, q _ _ M' G3 H2 L3 ((e.trans e2).trans e4) r4 (k1 f e3)⟩
instance s_makeI [z : XOkC K B W Ξ] : Stp (EvW K B (tMakeS C (spG K (n + 1) (fnI C RI)) (WE W) t) s M Φ) (EvA K B t s M fun as M1 => CallV RI n as fun r => ResI r (fun fs ds => Φ (.ins C fs ds) M1) fun X => Ξ X s M1) := ⟨fun h => e_makeI (a_mono h fun as M1 k => by
  obtain ⟨hn, r, hr, k⟩ := k
  exact ⟨r, by omega, hr, k⟩)⟩
theorem enterI {vs : List V} {H : Hp} {Q : VK} {E : XK} {ts : TS} {N : List Str} (h : spG K n (fnI C RI) vs H Q E)
    (k : ∀ (B : Fr) (p : Addr) (as : List Dt) (r : Except Addr (List Str × List Dt)), B.T = [p] → RI as r → XOkC K B (WF E) (fun X _ M => r = .error X ∧ M = [.one p (.ins C [] [])]) →
      WPs K B ts { nx := fun _ M => ∃ fs ds, M = [.one p (.ins C fs ds)] ∧ r = .ok (fs, ds), rt := fun d' M => False } (startD N.length (.ref p :: as)) [.one p (.ins C [] [])]) :
    ts { nx := fun _ H' => Q .non H', rt := Q } (L2.start N vs) H := by
  obtain ⟨hl, G, M, ds, Φ, Ξ, L, r, ⟨p, as, x, rfl, rfl, hr, k1, k2⟩, kQ, kE⟩ := h
  refine k ⟨G, H, [p]⟩ p as x rfl hr ⟨fun C s M' G' H' σ L' _ z => kE C _ _ _ L' (by obtain ⟨z, rfl⟩ := z; exact k2 C z)⟩ _ G H _ ⟨fun s M' G' H' σ z L' _ _ => ?_, fun v d M' G' H' z L' _ r' => z.elim, fun _ _ _ _ _ x => x.elim, fun _ _ _ _ _ x => x.elim⟩ L (slots_start r)
  obtain ⟨fs, ds, rfl, z⟩ := z
  exact kQ .non .non _ G' H' L' .non (k1 _ z)
/-! ### raise, e.f = value -/
def tRs (C : Addr) (W : WX) : TS := fun _ σ H => W (.ref C) none σ H
theorem ps_rs {X : Cx} {st : Stmt} (h : PS X st (fun _ σ H => (fun (_ : L2.St) (H : Hp) (Q : XK) => Q (.ref C) none H) σ H fun cls d H' => W cls d σ H')) : PS X st (tRs C W) := h
theorem ps_own {X : Cx} {st : Stmt} {g : TG} (h : PS X st (tAsg te g)) : PS X st (tAsg (tOwn te) g) := h
instance s_rs [z : XOkC K B W Ξ] {P : Post} : Stp (WPs K B (tRs C W) P s M) (Ξ C s M) := ⟨fun k D G H σ ok L S => z.h C s M G H σ L S k⟩
theorem zip_putF {f : Str} {v : V} : ∀ {fs : List Str} {vs : List V}, fs.length = vs.length → f ∉ fs → putF f v (fs.zip vs) = (fs ++ [f]).zip (vs ++ [v])
  | [], [], _, _ => rfl
  | g :: fs, w :: vs, h, hf => by
    rw [List.mem_cons, not_or] at hf
    show (if g = f then _ else _) = _
    rw [if_neg (fun e => hf.1 e.symm)]
    exact congrArg _ (zip_putF (by simpa using h) hf.2)
theorem zip_setF {f : Str} {v : V} : ∀ {fs : List Str} {vs : List V} {i : Nat}, fs.length = vs.length → fs[i]? = some f → (∀ j < i, fs[j]? ≠ some f) → putF f v (fs.zip vs) = fs.zip (vs.set i v)
  | [], [], _, _, h, _ => by simp at h
  | g :: fs, w :: vs, 0, _, h, _ => by
    simp only [List.getElem?_cons_zero, Option.some.injEq] at h
    show (if g = f then _ else _) = _
    rw [if_pos h]; rfl
  | g :: fs, w :: vs, i + 1, hl, h, hj => by
    show (if g = f then _ else _) = _
    rw [if_neg (fun e => hj 0 (by omega) (by simp [e]))]
    exact congrArg _ (zip_setF (i := i) (by simpa using hl) (by simpa using h) fun j hji => by simpa using hj (j + 1) (by omega))
/-- fields with one more, with another value -/
class PutF (fs : List Str) (ds : List Dt) (f : Str) (d : Dt) (fs' : outParam (List Str)) (ds' : outParam (List Dt)) : Prop where
  h : (f ∉ fs ∧ fs' = fs ++ [f] ∧ ds' = ds ++ [d]) ∨ ∃ i : Nat, fs[i]? = some f ∧ (∀ j < i, fs[j]? ≠ some f) ∧ fs' = fs ∧ ds' = ds.set i d
def FldSet (K : PySem.W.Frag) (M : Ms) (f : Str) (x y : Dt) (Ψ : Ms → Prop) : Prop := ∃ a C fs ds fs' ds' M', x = .ref a ∧ Upd M a (.ins C fs ds) (.ins C fs' ds') M' ∧ Cls K C ∧ NoAttr K C f ∧ fs.length < 1000 ∧ PutF fs ds f y fs' ds' ∧ Ψ M'
theorem w_fld {f : Str} {P : Post} {tv : TE} (h : EvW K B tv s M fun y M1 => EvW K B ta s M1 fun x M2 => FldSet K M2 f x y fun M3 => P.nx s M3) : WPs K B (sFld K ta tv f) P s M := fun D G H σ ok L S =>
  h G H σ _ L S fun v y M1 G1 H1 L1 e1 r1 h1 => h1 G1 H1 σ _ L1 (S.mono e1) fun w x M2 G2 H2 L2 e2 r2 h2 => by
    obtain ⟨a, C, fs, ds, fs', ds', M3, rfl, u, c, na, hl, pf, k⟩ := h2
    obtain ⟨Mr, p1, p2⟩ := u.perm
    obtain ⟨dx, vs, ea, l, t⟩ := (L2.perm p1).ats _ List.mem_cons_self
    refine ⟨a, C, dx, fs.zip vs, r2.refOf, ea, c, na, by rw [List.length_zip]; omega, ok.1 s M3 G2 _ σ k (L2.upd u ?_) (e1.trans e2) (S.mono (e1.trans e2))⟩
    have rv := r1.mono e2
    rcases pf.h with ⟨hf, rfl, rfl⟩ | ⟨i, h1, h2, rfl, rfl⟩
    · exact ⟨dx, vs ++ [v], by rw [upd_same, zip_putF l hf], by simp [l], t.append (.one rv)⟩
    · exact ⟨dx, vs.set i v, by rw [upd_same, zip_setF l h1 h2], by simp [l], t.set rv i⟩
instance s_sfld {f : Str} {tv : TE} {nx bk ct : Sl → Ms → Prop} {rt : Dt → Ms → Prop} : Stp (WPs K B (sFld K ta tv f) ⟨nx, rt, bk, ct⟩ s M) (EvW K B tv s M fun y M1 => EvW K B ta s M1 fun x M2 => FldSet K M2 f x y fun M3 => nx s M3) := ⟨fun k => w_fld (P := ⟨nx, rt, bk, ct⟩) k⟩
class Few (fs : List Str) : Prop where h : fs.length < 1000
instance few0 : Few [] := ⟨by decide⟩
instance few1 {a : Str} : Few [a] := ⟨by show 1 < _; decide⟩
instance few2 {a b : Str} : Few [a, b] := ⟨by show 2 < _; decide⟩
instance few3 {a b c : Str} : Few [a, b, c] := ⟨by show 3 < _; decide⟩
instance few4 {a b c d : Str} : Few [a, b, c, d] := ⟨by show 4 < _; decide⟩
instance few5 {a b c d e : Str} : Few [a, b, c, d, e] := ⟨by show 5 < _; decide⟩
instance s_fldset {f : Str} {a : Addr} {fs fs' : List Str} {ds' : List Dt} {Ψ : Ms → Prop} [q : FindC M a (.ins C fs ds)] [o : FldOk K C f] [w : Few fs] [p : PutF fs ds f y fs' ds'] [u : PutC M a (.ins C fs ds) (.ins C fs' ds') M'] : Stp (FldSet K M f (.ref a) y Ψ) (Ψ M') := ⟨fun k => ⟨a, C, fs, ds, fs', ds', M', rfl, u.h, o.c, o.n, w.h, p, k⟩⟩
section
variable {a b c e : Dt}
instance pf_h1 : PutF [] [] "doors" d ["doors"] [d] := ⟨.inl ⟨by decide, rfl, rfl⟩⟩
instance pf_h2 : PutF ["doors"] [a] "ways" d ["doors", "ways"] [a, d] := ⟨.inl ⟨by decide, rfl, rfl⟩⟩
instance pf_h3 : PutF ["doors", "ways"] [a, b] "lamps" d ["doors", "ways", "lamps"] [a, b, d] := ⟨.inl ⟨by decide, rfl, rfl⟩⟩
instance pf_b2 : PutF ["doors"] [a] "notes" d ["doors", "notes"] [a, d] := ⟨.inl ⟨by decide, rfl, rfl⟩⟩
instance pf_l1 : PutF [] [] "book" d ["book"] [d] := ⟨.inl ⟨by decide, rfl, rfl⟩⟩
instance pf_l2 : PutF ["book"] [a] "doors" d ["book", "doors"] [a, d] := ⟨.inl ⟨by decide, rfl, rfl⟩⟩
instance pf_l3 : PutF ["book", "doors"] [a, b] "heads" d ["book", "doors", "heads"] [a, b, d] := ⟨.inl ⟨by decide, rfl, rfl⟩⟩
instance pf_l4 : PutF ["book", "doors", "heads"] [a, b, c] "tails" d ["book", "doors", "heads", "tails"] [a, b, c, d] := ⟨.inl ⟨by decide, rfl, rfl⟩⟩
instance pf_l5 : PutF ["book", "doors", "heads", "tails"] [a, b, c, e] "waiting" d ["book", "doors", "heads", "tails", "waiting"] [a, b, c, e, d] := ⟨.inl ⟨by decide, rfl, rfl⟩⟩
instance pf_l6 {z : Dt} : PutF ["book", "doors", "heads", "tails", "waiting"] [a, b, c, e, z] "waiting" d ["book", "doors", "heads", "tails", "waiting"] [a, b, c, e, d] := ⟨.inr ⟨4, rfl, (by decide), rfl, rfl⟩⟩
end
/-! ### isinstance -/
class InsTyC (K : PySem.W.Frag) (C : Addr) : Prop where h : InsTy K C
class TyC (K : PySem.W.Frag) (M : Ms) (x : Dt) (t : outParam Value) : Prop where h : TyIs K M x t
instance ty_non : TyC K M .non (.type "NoneType") := ⟨.non⟩
instance ty_bl {b : Bool} : TyC K M (.bl b) (.type "bool") := ⟨.bl b⟩
instance ty_int {i : Int} : TyC K M (.int i) (.type "int") := ⟨.int i⟩
instance ty_str {i : Str} : TyC K M (.str i) (.type "str") := ⟨.str i⟩
instance ty_lst : TyC K M (.lst ds) (.type "list") := ⟨.lst .imm⟩
instance ty_lstR {a : Addr} [q : FindC M a (.lst ds)] : TyC K M (.ref a) (.type "list") := ⟨.lst (.one q.h)⟩
instance ty_tup : TyC K M (.tup ds) (.type "tuple") := ⟨.tup ds⟩
instance ty_ins {fs : List Str} [z : InsTyC K C] : TyC K M (.ins C fs ds) (.ref C) := ⟨.ins .imm z.h⟩
class ClsC (c : Dt) (u : outParam Value) : Prop where h : (∃ n, c = .ty n ∧ u = .type n) ∨ ∃ C, c = .ref C ∧ u = .ref C
instance cls_ty {n : String} : ClsC (.ty n) (.type n) := ⟨.inl ⟨n, rfl, rfl⟩⟩
instance cls_ref {C : Addr} : ClsC (.ref C) (.ref C) := ⟨.inr ⟨C, rfl, rfl⟩⟩
class KitC (K : PySem.W.Frag) (t u : Value) (b : outParam Bool) : Prop where h : PySem.W.kitOne K t u = some b
instance kit_ii : KitC K (.type "int") (.type "int") true := ⟨by rfl⟩
instance kit_ib : KitC K (.type "int") (.type "bool") false := ⟨by rfl⟩
instance kit_bb : KitC K (.type "bool") (.type "bool") true := ⟨by rfl⟩
instance kit_bi : KitC K (.type "bool") (.type "int") true := ⟨by rfl⟩
instance kit_ll : KitC K (.type "list") (.type "list") true := ⟨by rfl⟩
instance kit_tt : KitC K (.type "tuple") (.type "tuple") true := ⟨by rfl⟩
instance kit_ss : KitC K (.type "str") (.type "str") true := ⟨by rfl⟩
instance kit_nl : KitC K (.type "NoneType") (.type "list") false := ⟨by rfl⟩
instance kit_nb : KitC K (.type "NoneType") (.type "bool") false := ⟨by rfl⟩
instance kit_li : KitC K (.type "list") (.type "int") false := ⟨by rfl⟩
instance kit_self {C : Addr} : KitC K (.ref C) (.ref C) true := ⟨by
  unfold PySem.W.kitOne
  rw [if_pos (by simp)]⟩
instance s_isi {c : Dt} {tv u : Value} {b : Bool} [h1 : TyC K M x tv] [h2 : ClsC c u] [h3 : KitC K tv u b] : Stp (OpN K B (rIsi K) [x, c] M Φ) (Φ (.bl b) M) := ⟨fun k => c_isi h1.h h2.h h3.h k⟩
/-! ### for -/
def ForD (K : PySem.W.Frag) (B : Fr) (ds : List Dt) (g : TG) (tb : TS) (P : Post) (s : Sl) (M : Ms) : Prop := ∃ I : Nat → Sl → Ms → Prop, I 0 s M ∧
  (∀ (i : Nat) d s' M', ds[i]? = some d → I i s' M' → WPg K B g d s' M' fun s2 M2 => WPs K B tb ⟨I (i + 1), P.rt, P.nx, I (i + 1)⟩ s2 M2) ∧ ∀ s' M', I ds.length s' M' → P.nx s' M'
section
variable {α : Type} {l : List α} {f : α → Dt} {g : TG} {tb : TS} {nx bk ct : Sl → Ms → Prop} {rt : Dt → Ms → Prop}
theorem forD_i (I : Nat → Sl → Ms → Prop) (h0 : I 0 s M) (hs : ∀ (i : Nat) a s' M', l[i]? = some a → I i s' M' → WPg K B g (f a) s' M' fun s2 M2 => WPs K B tb ⟨I (i + 1), rt, nx, I (i + 1)⟩ s2 M2) (hd : ∀ s' M', I l.length s' M' → nx s' M') :
    ForD K B (l.map f) g tb ⟨nx, rt, bk, ct⟩ s M := ⟨I, h0, fun i d s' M' hd' hI => by
  obtain ⟨a, ha, rfl⟩ := of_get_map hd'
  exact hs i a s' M' ha hI, fun s' M' h => hd s' M' (by rwa [List.length_map] at h)⟩
theorem forD_r {n : Int} (I : Nat → Sl → Ms → Prop) (h0 : I 0 s M) (hs : ∀ (i : Nat) s' M', (i : Int) < n → I i s' M' → WPg K B g (.int (i : Int)) s' M' fun s2 M2 => WPs K B tb ⟨I (i + 1), rt, nx, I (i + 1)⟩ s2 M2) (hd : ∀ s' M', I n.toNat s' M' → nx s' M') :
    ForD K B (rngI n) g tb ⟨nx, rt, bk, ct⟩ s M := forD_i I h0 (fun i a s' M' ha hI => by
  have := (List.getElem?_eq_some_iff.mp ha).1
  rw [List.getElem?_range (by simpa using this)] at ha
  cases ha
  exact hs i s' M' (by simp at this; omega) hI) fun s' M' h => hd s' M' (by rwa [List.length_range] at h)
class ImmS (x : Dt) (ds : outParam (List Dt)) : Prop where h : ∀ M, SeqD M ds x
instance imm_lst : ImmS (.lst ds) ds := ⟨fun _ => .lst .imm⟩
instance imm_scr {ns : List Int} : ImmS (.scr ns) (ns.map Dt.int) := ⟨fun _ => .scr rfl⟩
def ForL (K : PySem.W.Frag) (B : Fr) (x : Dt) (g : TG) (tb : TS) (P : Post) (s : Sl) (M1 : Ms) : Prop := ∃ ds, ∃ I : Nat → Sl → Ms → Prop, (I 0 s M1 ∧ ∀ i s' M', I i s' M' → SeqD M' ds x) ∧
      (∀ (i : Nat) d s' M', ds[i]? = some d → I i s' M' → WPg K B g d s' M' fun s2 M2 => WPs K B tb { P with nx := I (i + 1), ct := I (i + 1), bk := P.nx } s2 M2) ∧ (∀ s' M', I ds.length s' M' → P.nx s' M')
instance s_forL {tl : TE} : Stp (WPs K B (tFor (iList K tl) g tb) ⟨nx, rt, bk, ct⟩ s M) (EvW K B tl s M fun x M1 => ForL K B x g tb ⟨nx, rt, bk, ct⟩ s M1) := ⟨fun k => w_forL (P := ⟨nx, rt, bk, ct⟩) k⟩
instance s_forL2 [h : ImmS x ds] : Stp (ForL K B x g tb ⟨nx, rt, bk, ct⟩ s M) (ForD K B ds g tb ⟨nx, rt, bk, ct⟩ s M) := ⟨fun ⟨I, h0, hs, hd⟩ => ⟨ds, I, ⟨h0, fun _ _ _ _ => h.h _⟩, hs, hd⟩⟩
instance s_forR : Stp (WPs K B (tFor (iRng1 t) g tb) ⟨nx, rt, bk, ct⟩ s M) (EvA K B t s M fun xs M1 => ∃ n : Int, xs = [.int n] ∧ Pre (n < 4611686018427387904 ∧ -4611686018427387904 ≤ n) (ForD K B (rngI n) g tb ⟨nx, rt, bk, ct⟩ s M1)) := ⟨fun h => w_forR (P := ⟨nx, rt, bk, ct⟩) (a_mono h fun xs M1 ⟨n, e, hn, I, h0, hs, hd⟩ => ⟨n, I, e, hn, h0, fun i s' M' hi hI => hs i _ s' M' (by unfold rngI; rw [List.getElem?_map, List.getElem?_range (by omega)]; rfl) hI, fun s' M' h => hd s' M' (by rwa [show (rngI n).length = n.toNat from by simp [rngI]])⟩)⟩
instance s_forT {tl : TE} : Stp (WPs K B (tFor (iTup K tl) g tb) ⟨nx, rt, bk, ct⟩ s M) (EvW K B tl s M fun x M1 => ∃ ds, x = .tup ds ∧ ForD K B ds g tb ⟨nx, rt, bk, ct⟩ s M1) := ⟨fun h => w_forT (P := ⟨nx, rt, bk, ct⟩) (e_mono h fun x M1 ⟨ds, e, I, h0, hs, hd⟩ => ⟨ds, I, e, h0, hs, hd⟩)⟩
end
end
end Ask
/-! Readings with the table of names given apart (for comprehensions). -/
namespace Ask
open PySem L2
section
variable {X : Cx} {K : PySem.W.Frag}
theorem pe_fldK (hk : X.K = K) {e : Expr} {f : Str} {pos : Pos} {ta : TE} (he : PE X e ta) (hb : attributeBase e f X.env (eval e X.env) = eval e X.env) : PE X (.Attribute e f pos) (tFld K ta f) := hk ▸ pe_fld he hb
theorem ix_seqK (hk : X.K = K) : IxR X (rIx K) := hk ▸ ix_seq
theorem ok_eq (hk : X.K = K) (hu : X.A.units + 64 < cLine) : OpR X (compareOp .Eq) (rEqD K) := hk ▸ op_eqD hu
theorem ok_ne (hk : X.K = K) (hu : X.A.units + 64 < cLine) : OpR X (compareOp .NotEq) (rNeD K) := hk ▸ op_neD hu
theorem ok_in (hk : X.K = K) (hu : X.A.units + 65 < cLine) : OpR X (compareOp .In) (rInD K) := hk ▸ op_inD hu
theorem ok_nin (hk : X.K = K) (hu : X.A.units + 65 < cLine) : OpR X (compareOp .NotIn) (rNotInD K) := hk ▸ op_notInD hu
theorem ck_len (hk : X.K = K) : CallR X (.builtin "len") (rLen K) := hk ▸ c_len
theorem ck_list (hk : X.K = K) : CallR X (.type "list") (rListOf K) := hk ▸ c_list
theorem ck_tuple (hk : X.K = K) : CallR X (.type "tuple") (rTupOf K) := hk ▸ c_tuple
theorem ck_isi (hk : X.K = K) : CallR X (.builtin "isinstance") (rIsi K) := hk ▸ call_isi
theorem ck_isiT (hk : X.K = K) : CallR X (.builtin "isinstance") (rIsiT K) := hk ▸ call_isiT
theorem ck_sum (hk : X.K = K) (hc : X.calm = true) : CallR X (.builtin "sum") (rSum K) := hk ▸ cr_sum hc
theorem ck_maxL (hk : X.K = K) (hc : X.calm = true) : CallR X (.builtin "max") (rMax K) := hk ▸ cr_max hc
theorem slk_list (hk : X.K = K) : SlR X (rSlL K) := hk ▸ sl_list
theorem mtk_index (hk : X.K = K) (hu : X.A.units + 65 < cLine) : MtR X "list.index" (rIndexD K) := hk ▸ mt_indexD hu
theorem pik_list (hk : X.K = K) {tg l : Expr} {tl : TE} (hl : PE X l tl) : PI X tg l (iList K tl) := hk ▸ pi_list hl
theorem pik_tup (hk : X.K = K) {tg l : Expr} {tl : TE} (hl : PE X l tl) : PI X tg l (iTup K tl) := hk ▸ pi_tup hl
theorem pik_enum (hk : X.K = K) {e : Expr} {ta : TA} {p pos tpos : Pos} {elts : List Expr} {kk : Nat} (hg : Gl X "enumerate") (hm : X.mg "enumerate" = none) (ha : PA X [e] ta) (hs : starEach [e] X.env = [(false, eval e X.env)] := by rfl) :
    PI X (.Tuple elts kk tpos) (.Call (.Name "enumerate" p) [e] [] pos) (iEnum K ta) := hk ▸ pi_enum hg hm ha hs
theorem pgk_tup (hk : X.K = K) {es : List Expr} {k : Nat} {t : TGs} {n : Nat} {pos : Pos} (hc : X.calm = true) (h : PGs X es t)
    (hn : (assignEach es X.env).length = n := by rfl) (hst : (assignEach es X.env).findIdx? (·.1) = none := by rfl) : PG X (.Tuple es k pos) (gTup K n t) := hk ▸ pg_tup hc h hn hst
theorem ps_fldK (hk : X.K = K) {o value : Expr} {f : Str} {pos pos' : Pos} {ta tv : TE} (ha : PE X o ta) (hv : PE X value tv) (hs : swapsWith value (some (.Attribute o f pos')) pos.line X.env = pure false) : PS X (.Assign [.Attribute o f pos'] value pos) (sFld K ta tv f) := hk ▸ ps_fld ha hv hs
section
variable {o e : Expr} {es : List Expr} {to te : TE} {t : TA} {name : Str} {apos cpos pos : Pos} {T id : String} {r : V → List V → Hp → VK → Prop}
theorem pe_bm0K (hk : X.K = K) (pa : PlainAttrs T) (slot : Slot T name id) (hty : typeOf (.builtin id) = pure (.type "method_descriptor")) (hm : MtR X id r) (ho : PE X o to)
    (hbase : attributeBase o name X.env (eval o X.env) = eval o X.env := by rfl) (hline : (apos.endLine == cpos.line) = true := by rfl) : PE X (.Call (.Attribute o name apos) [] [] cpos) (tBM0 K T r to) := hk ▸ pe_bm0 pa slot hty hm ho hbase hline
theorem pe_bmK (hk : X.K = K) (pa : PlainAttrs T) (slot : Slot T name id) (hty : typeOf (.builtin id) = pure (.type "method_descriptor")) (hm : MtR X id r) (ho : PE X o to) (ha : PA X (e :: es) t)
    (hbase : attributeBase o name X.env (eval o X.env) = eval o X.env := by rfl)
    (hfew : ((backTo cpos (starEach (e :: es) X.env)).all (fun x => !x.1) && (backToKw cpos (keywordEach [] X.env)).all (fun x => x.1.isSome)
      && decide ((e :: es).length + ([] : List Keyword).length + (if ([] : List Keyword).isEmpty then 0 else 1) < 30)) = true := by rfl)
    (hline : (apos.endLine == cpos.line) = true := by rfl) (hs : starEach (e :: es) X.env = (false, eval e X.env) :: starEach es X.env := by rfl) (hplain : (backTo cpos (starEach es X.env)).any (·.1) = false := by rfl) :
    PE X (.Call (.Attribute o name apos) (e :: es) [] cpos) (tBM K T r to t) := hk ▸ pe_bm pa slot hty hm ho ha hbase hfew hline hs hplain
/-- raise X('m'), X an own class under ValueError -/
theorem ps_rsV {W : WX} {C : Addr} {x m : Str} {j : Nat} {p p2 pos pos' : Pos} {bmB : List Value} (hc : X.calm = true) (tk : Takes X W) (q : PySem.W.excIn X.K C bmB "ValueError.__new__" = true) (gC : X.mg x = some (.ref C)) (kC : PySem.W.keepIn X.K (.ref C) = true) (r : Raises X (.ref C)) (hg : Gl X x)
    (hb : bmB = [.type "ValueError", .type "Exception", .type "BaseException", .type "object"] := by rfl) (hdb : (x == ("__debug__" : Str)) = false := by decide) : PS X (.Raise (some (.Call (.Name x p) [.Constant (.str m) j p2] [] pos)) none pos') (tRs C W) := by
  subst hb
  exact ps_raise hc tk (pmk_own PySem.F.excBase_ValueError q gC kC r hg hdb)
/-- text.join(list) -/
def rJoin (K : PySem.W.Frag) : V → List V → Hp → VK → Prop := fun x xs H Q => ∃ a p, ∃ ys : List Str, x = .str a ∧ xs = [.ref p] ∧ (SqL K H p (ys.map V.str) ∨ SqT K H p (ys.map V.str)) ∧
      (ys.map (·.length)).sum + ys.length * a.length ≤ 16777216 ∧ Q (.str (Txt.join a ys)) H
theorem pe_joinK (hk : X.K = K) (ho : PE X o to) (he : PE X e te) (hs : starEach [e] X.env = [(false, eval e X.env)] := by rfl) (hbase : attributeBase o "join" X.env (eval o X.env) = eval o X.env := by rfl) (hline : (apos.endLine == pos.line) = true := by rfl) :
    PE X (.Call (.Attribute o "join" apos) [e] [] pos) (tM1 (rJoin K) to te) := hk ▸ pe_join ho he hs hbase hline
end
end
end Ask
namespace Ask
open PySem L2
section
variable {K : PySem.W.Frag} {B : Fr} {s : Sl} {M : Ms} {te : TE} {j : Nat} {vs : List Nat} {fin : List Dt → Prop}
theorem lcD_rng {β : Type} {n : Int} (f' : β → Dt) (g : Nat → β) (hj : j ∈ vs) (hz : n < 16777216)
    (hs : ∀ (i : Nat) p acc, (i : Int) < n → p ∉ B.T → EvW K B te ((wipeS s vs).set j (some (.int (i : Int)))) (.one p (.lst acc) :: M) fun e M3 => M3 = .one p (.lst acc) :: M ∧ f' (g i) = e) (k : fin (((List.range n.toNat).map g).map f')) : LcD K B te s vs j (rngI n) M fin :=
  lcD_map (fun i => f' (g i)) hj (by rw [List.length_range]; omega) (fun a p acc ha hp => hs a p acc (by have := List.mem_range.mp ha; omega) hp) (by rw [List.map_map] at k; exact k)
theorem lcD_lst {α β : Type} {l : List α} {f : α → Dt} (f' : β → Dt) (g : α → β) (hj : j ∈ vs) (hz : l.length < 16777216)
    (hs : ∀ a p acc, a ∈ l → p ∉ B.T → EvW K B te ((wipeS s vs).set j (some (f a))) (.one p (.lst acc) :: M) fun e M3 => M3 = .one p (.lst acc) :: M ∧ f' (g a) = e) (k : fin ((l.map g).map f')) : LcD K B te s vs j (l.map f) M fin :=
  lcD_map (fun i => f' (g i)) hj hz hs (by rw [List.map_map] at k; exact k)
end
end Ask

namespace Ask
open PySem L2
/-- comes back with a new list | raises -/
def fnXL (R : List Dt → Except Addr (List Dt) → Prop) : FT := fun ds M Φ Ξ => M = [] ∧ ∃ r, R ds r ∧ (∀ es, r = .ok es → ∀ p, Φ (.ref p) [.one p (.lst es)]) ∧ ∀ C, r = .error C → Ξ C []
section
variable {K : PySem.W.Frag} {B : Fr} {s : Sl} {M : Ms} {Φ : Dt → Ms → Prop} {te : TE} {t : TA} {n : Nat} {ds : List Dt} {W : WX} {Ξ : Addr → Sl → Ms → Prop} {C : Addr} {m : Str} {R : List Dt → Except Addr (List Dt) → Prop} {i : Int}
instance s_neg : Stp (Op1 K B (rU fun i => .int (-i)) (.int i) M Φ) (Φ (.int (-i)) M) := ⟨fun k G H v Q L r q => ⟨i, r.intOf, q _ _ M G H L (Ex.refl G) (.int _) k⟩⟩
theorem call_coreXL [z : XOkC K B W Ξ] {M1 : Ms} (hn : ds.length = n) {r : Except Addr (List Dt)} (hr : R ds r) (k : ResX r (fun es => ∀ p, p ∉ B.T → (Fz B Φ (.ref p) (.one p (.lst es) :: M1) ∨ Φ (.ref p) (.one p (.lst es) :: M1))) fun C => Ξ C s M1) {G H : Hp} {σ : L2.St} {vs : List V} {Q : VK}
    (L : Lay K B G M1 H) (S : Slots K G σ s) (rp : RepAll K G vs ds) (q : ∀ v d M' G' H', Lay K B G' M' H' → Ex G G' → Rep K G' v d → Φ d M' → Q v H') : spG K n (fnXL R) vs H Q (fun cls d H => W cls d σ H) := by
  refine ⟨rp.len.trans hn, G, [], ds, fun d M' => ∃ p es, d = .ref p ∧ M' = [.one p (.lst es)] ∧ r = .ok es, fun C M' => r = .error C ∧ M' = [], (show Lay K B G ([] ++ M1) H from L).enter, rp, ⟨rfl, r, hr, fun es e p => ⟨p, es, rfl, rfl, e⟩, fun C e => ⟨e, rfl⟩⟩, fun v d M' G' H' L' r' kk => ?_, fun C M' G' H' L' kk => ?_⟩
  · obtain ⟨p, es, rfl, rfl, e⟩ := kk
    have Lb : Lay K B G' ([.one p (.lst es)] ++ M1) H' := Lay.back (Ma := []) L L'
    have hp : H p = none := (L'.new p (by simp [fpM, Ent.fp])).resolve_left (by simp [fpM])
    have hT : p ∉ B.T := fun z => L.freshM hp (L.tin p z)
    rw [r'.refOf]
    exact lc_end hT ⟨G', Lb, L'.grown L.sub⟩ (k.1 es e p hT) q
  · obtain ⟨e, rfl⟩ := kk
    exact z.h C s M1 G' H' σ (Lay.back (Ma := []) L L') (S.mono (L'.grown L.sub)) (k.2 C e)
theorem resX_mono {α : Type} {r : Except Addr α} {A A' : α → Prop} {E : Addr → Prop} (h : ResX r A E) (k : ∀ a, A a → A' a) : ResX r A' E := ⟨fun d e => k d (h.1 d e), h.2⟩
theorem e_callXL [z : XOkC K B W Ξ] (h : EvA K B t s M fun ds M1 => CallV R n ds fun r => ResX r (fun es => ∀ p, p ∉ B.T → (Fz B Φ (.ref p) (.one p (.lst es) :: M1) ∨ Φ (.ref p) (.one p (.lst es) :: M1))) fun C => Ξ C s M1) : EvW K B (tCallS (spG K n (fnXL R)) (WE W) t) s M Φ := fun G H σ Q L S q =>
  h G H σ _ L S fun vs ds M' G' H' L' e rp ⟨hn, r, hr, k⟩ => call_coreXL hn hr k L' (S.mono e) rp fun v d M2 G2 H2 L2 e2 => q v d M2 G2 H2 L2 (e.trans e2)
theorem e_methXL [z : XOkC K B W Ξ] (h : EvW K B te s M fun o M1 => IsIns M1 C m o (EvA K B t s M1 fun as M2 => CallV R n (o :: as) fun r => ResX r (fun es => ∀ p, p ∉ B.T → (Fz B Φ (.ref p) (.one p (.lst es) :: M2) ∨ Φ (.ref p) (.one p (.lst es) :: M2))) fun C => Ξ C s M2)) : EvW K B (tMethS C m (spG K n (fnXL R)) (WE W) te t) s M Φ := fun G H σ Q L S q =>
  h G H σ _ L S fun v o M' G' H' L' e r h' => by
    obtain ⟨fs, ds, i, hm, h'⟩ := h'
    obtain ⟨a, dx, vs, rfl, ea, l, _⟩ := i.at L' r
    refine ⟨a, dx, _, rfl, ea, lookF_none hm, h' G' H' σ _ L' (S.mono e) fun vs as M2 G2 H2 L2 e2 rs ⟨hn, d, hr, k⟩ => ?_⟩
    exact call_coreXL hn hr k L2 (S.mono (e.trans e2)) (.cons (r.mono e2) rs) fun v d M3 G3 H3 L3 e3 => q v d M3 G3 H3 L3 ((e.trans e2).trans e3)
instance s_callXL [z : XOkC K B W Ξ] : Stp (EvW K B (tCallS (spG K n (fnXL R)) (WE W) t) s M Φ) (EvA K B t s M fun ds M1 => CallV R n ds fun r => ResX r (fun es => Φ (.lst es) M1) fun C => Ξ C s M1) := ⟨fun h => e_callXL (a_mono h fun ds M1 c => callV_mono c fun r k => resX_mono k fun es k => fz k)⟩
instance s_callXLO [z : XOkC K B W Ξ] : Stp (EvW K B (tOwn (tCallS (spG K n (fnXL R)) (WE W) t)) s M Φ) (EvA K B t s M fun ds M1 => CallV R n ds fun r => ResX r (fun es => Own B Φ (.lst es) M1) fun C => Ξ C s M1) := ⟨fun h => e_callXL (a_mono h fun ds M1 c => callV_mono c fun r k => resX_mono k fun es k => fzM k)⟩
instance s_methXL [z : XOkC K B W Ξ] : Stp (EvW K B (tMethS C m (spG K n (fnXL R)) (WE W) te t) s M Φ) (EvW K B te s M fun o M1 => IsIns M1 C m o (EvA K B t s M1 fun as M2 => CallV R n (o :: as) fun r => ResX r (fun es => Φ (.lst es) M2) fun C => Ξ C s M2)) := ⟨fun h => e_methXL (e_mono h fun o M1 i => isIns_mono i fun a => a_mono a fun as M2 c => callV_mono c fun r k => resX_mono k fun es k => fz k)⟩
instance s_methXLO [z : XOkC K B W Ξ] : Stp (EvW K B (tOwn (tMethS C m (spG K n (fnXL R)) (WE W) te t)) s M Φ) (EvW K B te s M fun o M1 => IsIns M1 C m o (EvA K B t s M1 fun as M2 => CallV R n (o :: as) fun r => ResX r (fun es => Own B Φ (.lst es) M2) fun C => Ξ C s M2)) := ⟨fun h => e_methXL (e_mono h fun o M1 i => isIns_mono i fun a => a_mono a fun as M2 c => callV_mono c fun r k => resX_mono k fun es k => fzM k)⟩
theorem Lay.forgets {G H : Hp} {Mk : Ms} : ∀ {Mr : Ms}, Lay K B G (Mk ++ Mr) H → B.T = [] → Lay K B G Mk H
  | [], L, _ => by rwa [List.append_nil] at L
  | e :: Mr, L, hT => by
    have L2 : Lay K B G (e :: (Mk ++ Mr)) H := L.perm List.perm_middle
    have nd := L2.nd
    rw [fpM_cons] at nd
    have hM : ∀ a ∈ fpM (Mk ++ Mr), a ∈ fpM (e :: (Mk ++ Mr)) := fun a h => by rw [fpM_cons]; exact List.mem_append_right _ h
    exact Lay.forgets (Mr := Mr) ⟨L2.sub, (List.nodup_append.mp nd).2.1, fun a ha => L2.free a (hM a ha), fun x hx => L2.ats x (List.mem_cons_of_mem _ hx), L2.keep, L2.gfix, fun a ha => L2.new a (hM a ha), fun a ha => by rw [hT] at ha; cases ha⟩ hT
theorem Lay.clear {G H : Hp} (L : Lay K B G M H) (hT : B.T = []) : Lay K B G [] H := Lay.forgets (Mk := []) (Mr := M) L hT
theorem Lay.just {G H : Hp} {e : Ent} (L : Lay K B G M H) (he : e ∈ M) (hT : B.T = []) : Lay K B G [e] H := by
  obtain ⟨a, b, rfl⟩ := List.append_of_mem he
  exact Lay.forgets (Mk := [e]) (Mr := a ++ b) (L.perm List.perm_middle) hT
def RetL (M : Ms) (d : Dt) (es : List Dt) : Prop := ∃ p, d = .ref p ∧ Ent.one p (.lst es) ∈ M
def RetX (M : Ms) (d : Dt) (r : Except Addr (List Dt)) : Prop := ∃ p es, d = .ref p ∧ Ent.one p (.lst es) ∈ M ∧ r = .ok es
instance s_retL {p : Addr} {es : List Dt} [q : FindC M p (.lst ds)] : Stp (RetL M (.ref p) es) (ds = es) := ⟨fun e => ⟨p, rfl, e ▸ q.h⟩⟩
instance s_retX {p : Addr} {r : Except Addr (List Dt)} [q : FindC M p (.lst ds)] : Stp (RetX M (.ref p) r) (r = .ok ds) := ⟨fun e => ⟨p, ds, rfl, q.h, e⟩⟩
section
variable {vs : List V} {H : Hp} {Q : VK} {E : XK} {ts : TS} {N : List Str}
theorem enterXL (h : spG K n (fnXL R) vs H Q E)
    (k : ∀ (B : Fr) (ds : List Dt) (r : Except Addr (List Dt)), B.T = [] → R ds r → XOkC K B (WF E) (fun C _ M => r = .error C) → WPs K B ts { nx := fun _ M => False, rt := fun d' M => RetX M d' r } (startD N.length ds) []) :
    ts { nx := fun _ H' => Q .non H', rt := Q } (L2.start N vs) H := by
  obtain ⟨hl, G, M, ds, Φ, Ξ, L, r, ⟨rfl, x, hr, k1, k2⟩, kQ, kE⟩ := h
  refine k ⟨G, H, []⟩ ds x rfl hr ⟨fun C s M' G' H' σ L' _ z => kE C _ _ _ (L'.clear rfl) (k2 C z)⟩ _ G H _ ⟨fun s M' G' H' σ z L' _ _ => z.elim, fun v d M' G' H' z L' _ r' => ?_, fun _ _ _ _ _ x => x.elim, fun _ _ _ _ _ x => x.elim⟩ L (slots_start r)
  obtain ⟨p, es, rfl, hm, z⟩ := z
  exact kQ v _ _ G' H' (L'.just hm rfl) r' (k1 _ z p)
theorem enterX {R : List Dt → Except Addr Dt → Prop} (h : spG K n (fnX R) vs H Q E)
    (k : ∀ (B : Fr) (ds : List Dt) (r : Except Addr Dt), B.T = [] → R ds r → XOkC K B (WF E) (fun C _ M => r = .error C) → WPs K B ts { nx := fun _ M => r = .ok .non, rt := fun d' M => r = .ok d' } (startD N.length ds) []) :
    ts { nx := fun _ H' => Q .non H', rt := Q } (L2.start N vs) H := by
  obtain ⟨hl, G, M, ds, Φ, Ξ, L, r, ⟨rfl, x, hr, k1, k2⟩, kQ, kE⟩ := h
  exact k ⟨G, H, []⟩ ds x rfl hr ⟨fun C s M' G' H' σ L' _ z => kE C _ _ _ (L'.clear rfl) (k2 C z)⟩ _ G H _ ⟨fun s M' G' H' σ z L' _ _ => kQ .non .non [] G' H' (L'.clear rfl) .non (k1 _ z), fun v d M' G' H' z L' _ r' => kQ v _ [] G' H' (L'.clear rfl) r' (k1 _ z), fun _ _ _ _ _ x => x.elim, fun _ _ _ _ _ x => x.elim⟩ L (slots_start r)
theorem enterV {R : List Dt → Dt → Prop} (h : spG K n (fnV R) vs H Q E)
    (k : ∀ (B : Fr) (ds : List Dt) (d : Dt), B.T = [] → R ds d → XOkC K B (WF E) XF → WPs K B ts { nx := fun _ M => d = .non, rt := fun d' M => d' = d } (startD N.length ds) []) :
    ts { nx := fun _ H' => Q .non H', rt := Q } (L2.start N vs) H := by
  obtain ⟨hl, G, M, ds, Φ, Ξ, L, r, ⟨rfl, d, hr, kd⟩, kQ, kE⟩ := h
  refine k ⟨G, H, []⟩ ds d rfl hr ⟨fun C s M' G' H' σ L' _ x => x.elim⟩ _ G H _ ⟨fun s M' G' H' σ x L' _ _ => ?_, fun v d M' G' H' x L' _ r' => ?_, fun _ _ _ _ _ x => x.elim, fun _ _ _ _ _ x => x.elim⟩ L (slots_start r)
  · subst x
    exact kQ .non .non [] G' H' (L'.clear rfl) .non kd
  · subst x
    exact kQ v _ [] G' H' (L'.clear rfl) r' kd
theorem enterL {R : List Dt → List Dt → Prop} (h : spG K n (fnL R) vs H Q E)
    (k : ∀ (B : Fr) (ds es : List Dt), B.T = [] → R ds es → XOkC K B (WF E) XF → WPs K B ts { nx := fun _ M => False, rt := fun d M => RetL M d es } (startD N.length ds) []) :
    ts { nx := fun _ H' => Q .non H', rt := Q } (L2.start N vs) H := by
  obtain ⟨hl, G, M, ds, Φ, Ξ, L, r, ⟨rfl, es, hr, kd⟩, kQ, kE⟩ := h
  refine k ⟨G, H, []⟩ ds es rfl hr ⟨fun C s M' G' H' σ L' _ x => x.elim⟩ _ G H _ ⟨fun s M' G' H' σ x L' _ _ => x.elim, fun v d M' G' H' x L' _ r' => ?_, fun _ _ _ _ _ x => x.elim, fun _ _ _ _ _ x => x.elim⟩ L (slots_start r)
  obtain ⟨p, rfl, hm⟩ := x
  exact kQ v _ _ G' H' (L'.just hm rfl) r' (kd p)
end
end
end Ask
/-! A def that only reads: lists that are owned are handed as if they stayed. -/
namespace Ask
open PySem L2
mutual
def noLst : Dt → Bool
  | .lst _ => false
  | .scr _ => false
  | .tup ds => noLsts ds
  | .ins _ _ ds => noLsts ds
  | _ => true
def noLsts : List Dt → Bool
  | [] => true
  | d :: ds => noLst d && noLsts ds
end
mutual
theorem Rep.less {K : PySem.W.Frag} {G G' : Hp} (h : ∀ a o, G a = some o → (∀ xs, o ≠ .lst xs) → G' a = some o) : ∀ {v : V} {d : Dt}, Rep K G v d → noLst d = true → Rep K G' v d
  | _, _, .non, _ => .non
  | _, _, .bl b, _ => .bl b
  | _, _, .int i, _ => .int i
  | _, _, .str s, _ => .str s
  | _, _, .ref a, _ => .ref a
  | _, _, .ty n, _ => .ty n
  | _, _, .scr _, n => by simp [noLst] at n
  | _, _, .lst _ _, n => by simp [noLst] at n
  | _, _, .tup e r, n => .tup (h _ _ e (fun _ z => by cases z)) (RepAll.less h r (by simpa [noLst] using n))
  | _, _, .ins e l r, n => .ins (h _ _ e (fun _ z => by cases z)) l (RepAll.less h r (by simpa [noLst] using n))
theorem RepAll.less {K : PySem.W.Frag} {G G' : Hp} (h : ∀ a o, G a = some o → (∀ xs, o ≠ .lst xs) → G' a = some o) : ∀ {vs : List V} {ds : List Dt}, RepAll K G vs ds → noLsts ds = true → RepAll K G' vs ds
  | _, _, .nil, _ => .nil
  | _ :: _, d :: ds, .cons r t, n => by
    have n' : noLst d = true ∧ noLsts ds = true := by simpa [noLsts] using n
    exact .cons (Rep.less h r n'.1) (RepAll.less h t n'.2)
end
/-- refs of a block -/
abbrev refs (ps : List Addr) : List Dt := ps.map Dt.ref
inductive View (M : Ms) : List Dt → List Dt → Prop
  | nil : View M [] []
  | same {d : Dt} {ds es : List Dt} : View M ds es → View M (d :: ds) (d :: es)
  | cell {p : Addr} {xs ds es : List Dt} : LstD M xs (.ref p) → View M ds es → View M (.ref p :: ds) (.lst xs :: es)
  | block {p : Addr} {ps : List Addr} {rows : List (List Dt)} {ds es : List Dt} : Ent.one p (.lst (refs ps)) ∈ M → Ent.many ps rows ∈ M → View M ds es → View M (.ref p :: ds) (.lst (rows.map Dt.lst) :: es)
theorem View.refl {M : Ms} : ∀ ds : List Dt, View M ds ds
  | [] => .nil
  | d :: ds => .same (View.refl ds)
theorem View.len {M : Ms} {ds es : List Dt} (h : View M ds es) : es.length = ds.length := by induction h <;> simp_all
class ViewC (M : Ms) (ds : List Dt) (es : outParam (List Dt)) : Prop where h : View M ds es
instance view0 {M : Ms} : ViewC M [] [] := ⟨.nil⟩
instance (priority := low) viewS {M : Ms} {d : Dt} {ds es : List Dt} [l : ViewC M ds es] : ViewC M (d :: ds) (d :: es) := ⟨.same l.h⟩
instance viewA {M : Ms} {p : Addr} {xs ds es : List Dt} [f : FindC M p (.lst xs)] [l : ViewC M ds es] : ViewC M (.ref p :: ds) (.lst xs :: es) := ⟨.cell (.one f.h) l.h⟩
section
variable {K : PySem.W.Frag} {B : Fr} {G H : Hp} {M : Ms}
open Classical in
noncomputable def viewG (G H : Hp) (M : Ms) : Hp := fun a => if ∃ es, LstD M es (.ref a) then H a else G a
open Classical in
noncomputable def unview (G : Hp) (M : Ms) : Hp := fun a => if ∃ es, LstD M es (.ref a) then none else G a
theorem Lay.cellG (L : Lay K B G M H) {a : Addr} {es : List Dt} (h : LstD M es (.ref a)) : G a = none := L.free a (by
  cases h with
  | one h => exact mem_fpM h (by simp [Ent.fp])
  | row i h1 h2 h3 => exact mem_fpM h1 (by simpa [Ent.fp] using List.mem_of_getElem? h2))
theorem Lay.cellA (L : Lay K B G M H) {a : Addr} {es : List Dt} (h : LstD M es (.ref a)) : ∃ ws, H a = some (.lst ws) ∧ RepAll K G ws es := by
  cases h with
  | one h => exact L.ats _ h
  | row i h1 h2 h3 => exact (L.ats _ h1).2 i a es h2 h3
theorem Lay.viewEx (L : Lay K B G M H) : Ex G (viewG G H M) := fun a o e => by
  unfold viewG
  split
  · rename_i q; obtain ⟨es, q⟩ := q; rw [L.cellG q] at e; cases e
  · exact e
theorem Lay.viewLay (L : Lay K B G M H) : Lay K ⟨viewG G H M, H, []⟩ (viewG G H M) [] H :=
  ⟨fun a o e => by
    unfold viewG at e
    split at e
    · exact e
    · exact L.sub a o e, List.nodup_nil, fun _ h => absurd h (by simp [fpM]), fun _ h => absurd h (by simp), fun _ _ h _ => h, fun _ _ => rfl, fun _ h => absurd h (by simp [fpM]), fun _ h => absurd h (by simp)⟩
theorem View.rep (L : Lay K B G M H) {ds es : List Dt} (h : View M ds es) : ∀ {vs : List V}, RepAll K G vs ds → RepAll K (viewG G H M) vs es := by
  induction h with
  | nil => intro vs r; cases r; exact .nil
  | same _ ih => intro vs r; cases r with | cons a b => exact .cons (a.mono L.viewEx) (ih b)
  | @cell p xs ds es hm _ ih =>
    intro vs r
    cases r with
    | cons a b =>
      refine .cons ?_ (ih b)
      rw [a.refOf]
      obtain ⟨ws, e, t⟩ := L.cellA hm
      refine .lst (vs := ws) ?_ (t.mono L.viewEx)
      unfold viewG
      rw [if_pos ⟨xs, hm⟩]; exact e
  | @block p ps rows ds es hm hb _ ih =>
    intro vs r
    cases r with
    | cons a b =>
      refine .cons ?_ (ih b)
      rw [a.refOf]
      obtain ⟨ws, e, t⟩ := L.ats _ hm
      have hl := (L.ats _ hb).1
      refine .lst (vs := ws) (by unfold viewG; rw [if_pos ⟨_, .one hm⟩]; exact e) ?_
      have key : ∀ (qs : List Addr) (rs : List (List Dt)) (us : List V), qs.length = rs.length → RepAll K G us (refs qs) → (∀ (i : Nat) (q : Addr) (r : List Dt), qs[i]? = some q → rs[i]? = some r → LstD M r (.ref q)) → RepAll K (viewG G H M) us (rs.map Dt.lst) := by
        intro qs
        induction qs with
        | nil => intro rs us h1 h2 h3; cases rs with
          | nil => cases h2; exact .nil
          | cons _ _ => simp at h1
        | cons q qs ihq => intro rs us h1 h2 h3; cases rs with
          | nil => simp at h1
          | cons r rs =>
            cases h2 with
            | cons a2 b2 =>
              refine .cons ?_ (ihq rs _ (by simpa using h1) b2 fun i q' r' e1 e2 => h3 (i + 1) q' r' (by simpa using e1) (by simpa using e2))
              rw [a2.refOf]
              obtain ⟨ws2, e2, t2⟩ := L.cellA (h3 0 q r rfl rfl)
              exact .lst (vs := ws2) (by unfold viewG; rw [if_pos ⟨_, h3 0 q r rfl rfl⟩]; exact e2) (t2.mono L.viewEx)
      exact key ps rows ws hl t fun i q r e1 e2 => .row i hb e1 e2
theorem Lay.unview {G2 H2 : Hp} (L : Lay K B G M H) (L' : Lay K ⟨viewG G H M, H, []⟩ G2 [] H2) : Lay K B (unview G2 M) M H2 ∧ Ex G (Ask.unview G2 M) ∧ ∀ a o, G2 a = some o → (∀ xs, o ≠ .lst xs) → Ask.unview G2 M a = some o := by
  have live : ∀ a, H a ≠ none → G2 a = viewG G H M a := fun a h => L'.gfix a h
  have nocell : ∀ a, (¬ ∃ es, LstD M es (.ref a)) → viewG G H M a = G a := fun a h => by unfold viewG; rw [if_neg h]
  have un : ∀ a, (¬ ∃ es, LstD M es (.ref a)) → Ask.unview G2 M a = G2 a := fun a h => by unfold Ask.unview; rw [if_neg h]
  have un0 : ∀ a, (∃ es, LstD M es (.ref a)) → Ask.unview G2 M a = none := fun a h => by unfold Ask.unview; rw [if_pos h]
  have ex : Ex G (Ask.unview G2 M) := fun a o e => by
    have hn : ¬ ∃ es, LstD M es (.ref a) := fun ⟨es, q⟩ => by rw [L.cellG q] at e; cases e
    rw [un a hn, live a (by rw [L.sub a o e]; simp), nocell a hn]; exact e
  have bh : ∀ a, B.H0 a ≠ none → H a ≠ none := fun a h q => h (L.fresh0 q)
  refine ⟨⟨fun a o e => ?_, L.nd, fun a ha => ?_, fun e he => (L.ats e he).ex ex fun a _ o h => L'.keep a o h (by simp), fun a o h t => L'.keep a o (L.keep a o h t) (by simp), fun a h => ?_, L.new, L.tin⟩, ex, fun a o e hne => ?_⟩
  · by_cases q : ∃ es, LstD M es (.ref a)
    · rw [un0 a q] at e; cases e
    · rw [un a q] at e; exact L'.sub a o e
  · by_cases q : ∃ es, LstD M es (.ref a)
    · exact un0 a q
    · rw [un a q, live a (fun z => L.freshM z ha), nocell a q]; exact L.free a ha
  · by_cases q : ∃ es, LstD M es (.ref a)
    · rw [un0 a q, ← L.gfix a h]
      obtain ⟨es, q⟩ := q
      exact (L.cellG q).symm
    · rw [un a q, live a (bh a h), nocell a q]; exact L.gfix a h
  · have hn : ¬ ∃ es, LstD M es (.ref a) := fun ⟨es, q⟩ => by
      obtain ⟨ws, e2, _⟩ := L.cellA q
      have := live a (by rw [e2]; simp)
      unfold viewG at this
      rw [if_pos ⟨es, q⟩, e, e2] at this
      exact hne ws (Option.some.inj this)
    rw [un a hn]; exact e
/-- a call that reads only -/
def CallW (M : Ms) (R : List Dt → Dt → Prop) (n : Nat) (ds : List Dt) (Ψ : Dt → Prop) : Prop := ds.length = n ∧ ∃ es d, View M ds es ∧ R es d ∧ (es = ds ∨ noLst d = true) ∧ Ψ d
def CallY (M : Ms) (R : List Dt → Except Addr Dt → Prop) (n : Nat) (ds : List Dt) (Ψ : Except Addr Dt → Prop) : Prop := ds.length = n ∧ ∃ es r, View M ds es ∧ R es r ∧ (es = ds ∨ ∀ d, r = .ok d → noLst d = true) ∧ Ψ r
variable {s : Sl} {Φ : Dt → Ms → Prop} {te : TE} {t : TA} {n : Nat} {ds es : List Dt} {W : WX} {Ξ : Addr → Sl → Ms → Prop} {C : Addr} {m : Str} {R : List Dt → Dt → Prop} {RX : List Dt → Except Addr Dt → Prop}
theorem call_coreW {M1 : Ms} {Ψ : Dt → Prop} (c : CallW M1 R n ds Ψ) (k : ∀ d, Ψ d → Φ d M1) {σ : L2.St} {vs : List V} {Q : VK} (L : Lay K B G M1 H) (r : RepAll K G vs ds)
    (q : ∀ v d M' G' H', Lay K B G' M' H' → Ex G G' → Rep K G' v d → Φ d M' → Q v H') : spG K n (fnV R) vs H Q (fun cls d H => W cls d σ H) := by
  obtain ⟨hn, es, d, hv, hr, hl, hk⟩ := c
  rcases hl with rfl | hl
  · exact call_coreV hn hr (k d hk) L r q
  · refine ⟨r.len.trans hn, viewG G H M1, [], es, fun d' M' => d' = d ∧ M' = [], fun _ _ => False, L.viewLay, hv.rep L r, ⟨rfl, d, hr, rfl, rfl⟩, fun v d' M' G' H' L' r' kk => ?_, fun _ _ _ _ _ k => k.elim⟩
    obtain ⟨rfl, rfl⟩ := kk
    obtain ⟨L3, e3, le⟩ := L.unview L'
    exact q _ _ _ _ _ L3 e3 (r'.less le hl) (k _ hk)
theorem call_coreY [z : XOkC K B W Ξ] {M1 : Ms} (c : CallY M1 RX n ds fun r => ResX r (fun d => Φ d M1) fun C => Ξ C s M1) {σ : L2.St} {vs : List V} {Q : VK} (L : Lay K B G M1 H) (S : Slots K G σ s) (r : RepAll K G vs ds)
    (q : ∀ v d M' G' H', Lay K B G' M' H' → Ex G G' → Rep K G' v d → Φ d M' → Q v H') : spG K n (fnX RX) vs H Q (fun cls d H => W cls d σ H) := by
  obtain ⟨hn, es, x, hv, hr, hl, hk⟩ := c
  rcases hl with rfl | hl
  · exact call_coreX hn hr hk L S r q
  · refine ⟨r.len.trans hn, viewG G H M1, [], es, fun d' M' => x = .ok d' ∧ M' = [], fun C M' => x = .error C ∧ M' = [], L.viewLay, hv.rep L r, ⟨rfl, x, hr, fun d e => ⟨e, rfl⟩, fun C e => ⟨e, rfl⟩⟩, fun v d' M' G' H' L' r' kk => ?_, fun C M' G' H' L' kk => ?_⟩
    · obtain ⟨e, rfl⟩ := kk
      obtain ⟨L3, e3, le⟩ := L.unview L'
      exact q _ _ _ _ _ L3 e3 (r'.less le (hl _ e)) (hk.1 _ e)
    · obtain ⟨e, rfl⟩ := kk
      obtain ⟨L3, e3, le⟩ := L.unview L'
      exact z.h C s M1 _ H' σ L3 (S.mono e3) (hk.2 C e)
instance (priority := high) s_callVW : Stp (EvW K B (tCallS (spG K n (fnV R)) (WE W) t) s M Φ) (EvA K B t s M fun ds M1 => CallW M1 R n ds fun d => Φ d M1) := ⟨fun h => fun G H σ Q L S q =>
  h G H σ _ L S fun vs ds M' G' H' L' e r c => call_coreW c (fun _ k => k) L' r fun v d M2 G2 H2 L2 e2 => q v d M2 G2 H2 L2 (e.trans e2)⟩
instance (priority := high) s_callXY [z : XOkC K B W Ξ] : Stp (EvW K B (tCallS (spG K n (fnX RX)) (WE W) t) s M Φ) (EvA K B t s M fun ds M1 => CallY M1 RX n ds fun r => ResX r (fun d => Φ d M1) fun C => Ξ C s M1) := ⟨fun h => fun G H σ Q L S q =>
  h G H σ _ L S fun vs ds M' G' H' L' e r c => call_coreY c L' (S.mono e) r fun v d M2 G2 H2 L2 e2 => q v d M2 G2 H2 L2 (e.trans e2)⟩
instance (priority := high) s_methVW : Stp (EvW K B (tMethS C m (spG K n (fnV R)) (WE W) te t) s M Φ) (EvW K B te s M fun o M1 => IsIns M1 C m o (EvA K B t s M1 fun as M2 => CallW M2 R n (o :: as) fun d => Φ d M2)) := ⟨fun h => fun G H σ Q L S q =>
  h G H σ _ L S fun v o M' G' H' L' e r h' => by
    obtain ⟨fs, ds, i, hm, h'⟩ := h'
    obtain ⟨a, dx, vs, rfl, ea, l, _⟩ := i.at L' r
    refine ⟨a, dx, _, rfl, ea, lookF_none hm, h' G' H' σ _ L' (S.mono e) fun vs as M2 G2 H2 L2 e2 rs c => ?_⟩
    exact call_coreW c (fun _ k => k) L2 (.cons (r.mono e2) rs) fun v d M3 G3 H3 L3 e3 => q v d M3 G3 H3 L3 ((e.trans e2).trans e3)⟩
instance (priority := high) s_methXY [z : XOkC K B W Ξ] : Stp (EvW K B (tMethS C m (spG K n (fnX RX)) (WE W) te t) s M Φ) (EvW K B te s M fun o M1 => IsIns M1 C m o (EvA K B t s M1 fun as M2 => CallY M2 RX n (o :: as) fun r => ResX r (fun d => Φ d M2) fun C => Ξ C s M2)) := ⟨fun h => fun G H σ Q L S q =>
  h G H σ _ L S fun v o M' G' H' L' e r h' => by
    obtain ⟨fs, ds, i, hm, h'⟩ := h'
    obtain ⟨a, dx, vs, rfl, ea, l, _⟩ := i.at L' r
    refine ⟨a, dx, _, rfl, ea, lookF_none hm, h' G' H' σ _ L' (S.mono e) fun vs as M2 G2 H2 L2 e2 rs c => ?_⟩
    exact call_coreY c L2 (S.mono (e.trans e2)) (.cons (r.mono e2) rs) fun v d M3 G3 H3 L3 e3 => q v d M3 G3 H3 L3 ((e.trans e2).trans e3)⟩
class NoV (d : Dt) : Prop where h : noLst d = true
instance nov_non : NoV .non := ⟨rfl⟩
instance nov_bl {b : Bool} : NoV (.bl b) := ⟨rfl⟩
instance nov_int {b : Int} : NoV (.int b) := ⟨rfl⟩
instance nov_str {b : Str} : NoV (.str b) := ⟨rfl⟩
instance nov_ref {b : Addr} : NoV (.ref b) := ⟨rfl⟩
class NoX (r : Except Addr Dt) : Prop where h : ∀ d, r = .ok d → noLst d = true
instance nox_ok {d : Dt} [h : NoV d] : NoX (.ok d) := ⟨fun _ e => by cases e; exact h.h⟩
instance nox_er {C : Addr} : NoX (.error C) := ⟨fun _ e => by cases e⟩
instance nox_if {p : Prop} [Decidable p] {a b : Except Addr Dt} [h : NoX a] [k : NoX b] : NoX (if p then a else b) := ⟨fun d e => by
  split at e
  · exact h.h d e
  · exact k.h d e⟩
variable {pre : Prop} {d : Dt} {r : Except Addr Dt} {Ψ : Dt → Prop} {ΨX : Except Addr Dt → Prop}
instance s_callW0 [l : LenN ds n] [f : FnC R ds pre d] : Stp (CallW M R n ds Ψ) (Pre pre (Ψ d)) := ⟨fun k => ⟨l.h, ds, d, .refl _, f.h k.1, .inl rfl, k.2⟩⟩
instance (priority := low) s_callW1 [l : LenN ds n] [w : ViewC M ds es] [f : FnC R es pre d] [v : NoV d] : Stp (CallW M R n ds Ψ) (Pre pre (Ψ d)) := ⟨fun k => ⟨l.h, es, d, w.h, f.h k.1, .inr v.h, k.2⟩⟩
instance s_callY0 [l : LenN ds n] [f : FnC RX ds pre r] : Stp (CallY M RX n ds ΨX) (Pre pre (ΨX r)) := ⟨fun k => ⟨l.h, ds, r, .refl _, f.h k.1, .inl rfl, k.2⟩⟩
instance (priority := low) s_callY1 [l : LenN ds n] [w : ViewC M ds es] [f : FnC RX es pre r] [v : NoX r] : Stp (CallY M RX n ds ΨX) (Pre pre (ΨX r)) := ⟨fun k => ⟨l.h, es, r, w.h, f.h k.1, .inr v.h, k.2⟩⟩
end
end Ask
namespace Ask
open PySem L2
/-! ### two lists beside one another -/
section
variable {K : PySem.W.Frag} {B : Fr} {M : Ms} {Φ : Dt → Ms → Prop} {x y : Dt}
theorem vals_enc {α : Type} {f : α → Dt} {n : Nat} (e : Enc f n) {a : List α} (h : LstD M (a.map f) x) : Val M x (.lst (a.map f)) := .lst h (.imm (e.dats a))
theorem eq_enc {α : Type} [DecidableEq α] {f : α → Dt} {n : Nat} (e : Enc f n) (hn : n ≤ 60) {a b : List α} (h : LstD M (a.map f) x) (k : LstD M (b.map f) y) (q : Φ (.bl (decide (a = b))) M) : Op2 K B (rEqD K) x y M Φ :=
  p_eqE e.lst (by omega) (vals_enc e h) (vals_enc e k) fun c hc => by
    have : c = decide (a = b) := by rw [Bool.eq_iff_iff]; simpa using hc
    rw [this]; exact q
theorem ne_enc {α : Type} [DecidableEq α] {f : α → Dt} {n : Nat} (e : Enc f n) (hn : n ≤ 60) {a b : List α} (h : LstD M (a.map f) x) (k : LstD M (b.map f) y) (q : Φ (.bl (decide (a ≠ b))) M) : Op2 K B (rNeD K) x y M Φ :=
  p_neE e.lst (by omega) (vals_enc e h) (vals_enc e k) fun c hc => by
    have : c = decide (a ≠ b) := by cases c <;> simp_all
    rw [this]; exact q
section
variable {a b : List Int}
instance s_eqInts [h : LstC M x (a.map Dt.int)] [k : LstC M y (b.map Dt.int)] : Stp (Op2 K B (rEqD K) x y M Φ) (Φ (.bl (decide (a = b))) M) := ⟨eq_enc enc_int (by decide) h.h k.h⟩
instance s_neInts [h : LstC M x (a.map Dt.int)] [k : LstC M y (b.map Dt.int)] : Stp (Op2 K B (rNeD K) x y M Φ) (Φ (.bl (decide (a ≠ b))) M) := ⟨ne_enc enc_int (by decide) h.h k.h⟩
end
section
variable {a b : List Bool}
instance s_eqBls [h : LstC M x (a.map Dt.bl)] [k : LstC M y (b.map Dt.bl)] : Stp (Op2 K B (rEqD K) x y M Φ) (Φ (.bl (decide (a = b))) M) := ⟨eq_enc enc_bl (by decide) h.h k.h⟩
instance s_neBls [h : LstC M x (a.map Dt.bl)] [k : LstC M y (b.map Dt.bl)] : Stp (Op2 K B (rNeD K) x y M Φ) (Φ (.bl (decide (a ≠ b))) M) := ⟨ne_enc enc_bl (by decide) h.h k.h⟩
end
section
variable {a b : List (List Int)}
instance s_eqRows [h : LstC M x (a.map dInts)] [k : LstC M y (b.map dInts)] : Stp (Op2 K B (rEqD K) x y M Φ) (Φ (.bl (decide (a = b))) M) := ⟨eq_enc enc_ints (by decide) h.h k.h⟩
instance s_neRows [h : LstC M x (a.map dInts)] [k : LstC M y (b.map dInts)] : Stp (Op2 K B (rNeD K) x y M Φ) (Φ (.bl (decide (a ≠ b))) M) := ⟨ne_enc enc_ints (by decide) h.h k.h⟩
end
end
instance s_br_ne {α : Type} {a : α} {A B : Prop} : Stp (Br (a ≠ a) A B) B := ⟨fun k => br_no (fun h => h rfl) k⟩
instance s_br_eq {α : Type} {a : α} {A B : Prop} : Stp (Br (a = a) A B) A := ⟨fun k => br_yes rfl k⟩
end Ask
/-! Houses, words, draws: plain mathematics. -/
namespace Ask
open PySem L2
def cellAt (ns : List Int) (k : Int) : Int := gt ns k
def draw (cell k bound : Int) : Int := (((cell % 2147483647 + 977 * k + 1) * 48271 % 2147483647 + 40692 * (k + 3)) * 69621 % 2147483629) / 8 % bound
theorem draw_in {cell k bound : Int} (h : 0 < bound) : 0 ≤ draw cell k bound ∧ draw cell k bound < bound :=
  ⟨Int.emod_nonneg _ (by omega), Int.emod_lt_of_pos _ h⟩
def rowBy (cell : Int) (k : Nat) (doors rooms : Int) : List Int := (List.range doors.toNat).map fun (d : Nat) => draw cell (7 * (k : Int) + (d : Int)) rooms
def waysBy (cell doors rooms : Int) : List (List Int) := (List.range rooms.toNat).map fun k => rowBy cell k doors rooms
theorem rowBy_length (cell : Int) (k : Nat) (doors rooms : Int) : (rowBy cell k doors rooms).length = doors.toNat := by simp [rowBy]
theorem waysBy_length (cell doors rooms : Int) : (waysBy cell doors rooms).length = rooms.toNat := by simp [waysBy]
theorem waysBy_take {cell doors rooms : Int} {i : Nat} (h : (i : Int) < rooms) : ((waysBy cell doors rooms).take (i + 1)).map dInts = ((waysBy cell doors rooms).take i).map dInts ++ [dInts (rowBy cell i doors rooms)] :=
  take_map (by rw [waysBy, List.getElem?_map, List.getElem?_range (by omega)]; rfl)
def lampsBy (cell rooms : Int) : List Bool := (List.range rooms.toNat).map fun (k : Nat) => decide (draw cell (k : Int) 2 = 1)
theorem lampsBy_length (cell rooms : Int) : (lampsBy cell rooms).length = rooms.toNat := by simp [lampsBy]
def wordBy (cell doors size : Int) : List Int := (List.range size.toNat).map fun (k : Nat) => draw cell (k : Int) doors
theorem wordBy_length (cell doors size : Int) : (wordBy cell doors size).length = size.toNat := by simp [wordBy]
def RowOk (doors : Int) (n : Nat) (row : List Int) : Prop := (row.length : Int) = doors ∧ ∀ x ∈ row, 0 ≤ x ∧ x < (n : Int)
def HouseOk (doors : Int) (ways : List (List Int)) (lamps : List Bool) : Prop := 1 ≤ doors ∧ doors ≤ 6 ∧ 1 ≤ (ways.length : Int) ∧ (ways.length : Int) ≤ 400 ∧ lamps.length = ways.length ∧ ∀ row ∈ ways, RowOk doors ways.length row
instance (doors : Int) (n : Nat) (row : List Int) : Decidable (RowOk doors n row) := inferInstanceAs (Decidable (_ ∧ _))
instance (doors : Int) (ways : List (List Int)) (lamps : List Bool) : Decidable (HouseOk doors ways lamps) := inferInstanceAs (Decidable (_ ∧ _ ∧ _ ∧ _ ∧ _ ∧ _))
theorem mem_take_succ {α : Type} {l : List α} {i : Nat} {a x : α} (h : l[i]? = some a) (hx : x ∈ l.take (i + 1)) : x ∈ l.take i ∨ x = a := by
  rw [List.take_add_one, h] at hx; simpa using hx
abbrev dHouse (C : Addr) (doors : Int) (ways : List (List Int)) (lamps : List Bool) : Dt := .ins C ["doors", "ways", "lamps"] [.int doors, dRows ways, dBls lamps]
def WordOk (doors : Int) (word : List Int) : Prop := ∀ d ∈ word, 0 ≤ d ∧ d < doors
instance (doors : Int) (word : List Int) : Decidable (WordOk doors word) := inferInstanceAs (Decidable (∀ d ∈ word, 0 ≤ d ∧ d < doors))
def stepOf (ways : List (List Int)) (room door : Int) : Int := gt (gt ways room) door
def walkOf (ways : List (List Int)) (room : Int) (word : List Int) : Int := word.foldl (stepOf ways) room
def trailOf (ways : List (List Int)) (room : Int) (word : List Int) : List Int := (List.range (word.length + 1)).map fun i => walkOf ways room (word.take i)
theorem take_snoc {α : Type} {l : List α} {i : Nat} {a : α} (h : l[i]? = some a) : l.take (i + 1) = l.take i ++ [a] := by rw [List.take_add_one, h]; rfl
theorem walkOf_snoc {ways : List (List Int)} {room d : Int} {word : List Int} : walkOf ways room (word ++ [d]) = stepOf ways (walkOf ways room word) d := by simp [walkOf]
theorem trailOf_snoc {ways : List (List Int)} {room d : Int} {word : List Int} : trailOf ways room (word ++ [d]) = trailOf ways room word ++ [stepOf ways (walkOf ways room word) d] := by
  unfold trailOf
  rw [List.length_append, List.length_singleton, List.range_succ, List.map_append]
  congr 1
  · refine List.map_congr_left fun i hi => ?_
    have := List.mem_range.mp hi
    rw [List.take_append_of_le_length (by omega)]
  · rw [List.map_singleton, ← walkOf_snoc, List.take_of_length_le (by simp)]
theorem trailOf_length {ways : List (List Int)} {room : Int} {word : List Int} : (trailOf ways room word).length = word.length + 1 := by simp [trailOf]
theorem trailOf_nil {ways : List (List Int)} {room : Int} : trailOf ways room [] = [room] := by simp [trailOf, walkOf]
theorem step_in {doors : Int} {ways : List (List Int)} {lamps : List Bool} (h : HouseOk doors ways lamps) {r d : Int} (hr : 0 ≤ r ∧ r < (ways.length : Int)) (hd : 0 ≤ d ∧ d < doors) : 0 ≤ stepOf ways r d ∧ stepOf ways r d < (ways.length : Int) := by
  have hm := gt_mem hr.1 hr.2
  have ho := h.2.2.2.2.2 _ hm
  exact ho.2 _ (gt_mem hd.1 (by have := ho.1; omega))
theorem row_len {doors : Int} {ways : List (List Int)} {lamps : List Bool} (h : HouseOk doors ways lamps) {r : Int} (hr : 0 ≤ r ∧ r < (ways.length : Int)) : ((gt ways r).length : Int) = doors := (h.2.2.2.2.2 _ (gt_mem hr.1 hr.2)).1
theorem walk_in {doors : Int} {ways : List (List Int)} {lamps : List Bool} (h : HouseOk doors ways lamps) : ∀ {word : List Int} {r : Int}, 0 ≤ r ∧ r < (ways.length : Int) → WordOk doors word → 0 ≤ walkOf ways r word ∧ walkOf ways r word < (ways.length : Int)
  | [], r, hr, _ => hr
  | d :: word, r, hr, hw => walk_in h (word := word) (step_in h hr (hw d List.mem_cons_self)) fun x hx => hw x (List.mem_cons_of_mem _ hx)
theorem trail_last {ways : List (List Int)} {room x : Int} {word : List Int} : (trailOf ways room word).getLastD x = walkOf ways room word := by
  unfold trailOf
  rw [List.range_succ, List.map_append, List.map_singleton, List.getLastD_concat, List.take_length]
theorem trail_ne {ways : List (List Int)} {room : Int} {word : List Int} : trailOf ways room word ≠ [] := fun h => by
  have := trailOf_length (ways := ways) (room := room) (word := word)
  rw [h] at this; simp at this
def WalkOk (ways : List (List Int)) (room : Int) (word : List Int) : Prop := ∃ doors lamps, HouseOk doors ways lamps ∧ WordOk doors word ∧ 0 ≤ room ∧ room < (ways.length : Int)
theorem room0 {doors : Int} {ways : List (List Int)} {lamps : List Bool} (h : HouseOk doors ways lamps) : 0 ≤ (0 : Int) ∧ (0 : Int) < (ways.length : Int) := ⟨by omega, by have := h.2.2.1; omega⟩
theorem WordOk.take {doors : Int} {word : List Int} (h : WordOk doors word) (i : Nat) : WordOk doors (word.take i) := fun x hx => h x (List.mem_of_mem_take hx)
instance (priority := high) s_ix_trail {ways : List (List Int)} {r : Int} {word : List Int} {Ψ : Dt → Prop} : Stp (Ix ((trailOf ways r word).map Dt.int) (-1) Ψ) (Ψ (.int (walkOf ways r word))) := ⟨fun k => (s_ix_last (f := Dt.int) (l := trailOf ways r word)).imp ⟨trail_ne, by rw [trail_last]; exact k⟩⟩
theorem draw_row {cell : Int} {k : Nat} {doors rooms : Int} (hr : 0 < rooms) {x : Int} (hx : x ∈ rowBy cell k doors rooms) : 0 ≤ x ∧ x < rooms := by
  obtain ⟨d, _, rfl⟩ := List.mem_map.mp hx
  exact draw_in hr
theorem houseBy_ok {c1 c2 doors rooms : Int} (h1 : 1 ≤ doors) (h2 : doors ≤ 6) (h3 : 1 ≤ rooms) (h4 : rooms ≤ 400) : HouseOk doors (waysBy c1 doors rooms) (lampsBy c2 rooms) := by
  refine ⟨h1, h2, by rw [waysBy_length]; omega, by rw [waysBy_length]; omega, by rw [waysBy_length, lampsBy_length], fun row hr => ?_⟩
  obtain ⟨k, _, rfl⟩ := List.mem_map.mp hr
  refine ⟨by rw [rowBy_length]; omega, fun x hx => ?_⟩
  have := draw_row (by omega) hx
  rw [waysBy_length]; omega
theorem wordBy_ok {cell doors size : Int} (h : 1 ≤ doors) : WordOk doors (wordBy cell doors size) := fun d hd => by
  obtain ⟨k, _, rfl⟩ := List.mem_map.mp hd
  exact draw_in (by omega)
end Ask
/-! Defs that are handed what is owned and leave it as it was; blocks of lists. -/
namespace Ask
open PySem L2
def fnXM (R : Ms → List Dt → Except Addr Dt → Prop) : FT := fun ds M Φ Ξ => ∃ r, R M ds r ∧ (∀ d, r = .ok d → Φ d M) ∧ ∀ C, r = .error C → Ξ C M
def fnIM (C : Addr) (R : Ms → List Dt → Except Addr (List Str × List Dt) → Prop) : FT := fun ds M Φ Ξ => ∃ p as Mr r, ds = .ref p :: as ∧ M = .one p (.ins C [] []) :: Mr ∧ R Mr as r ∧ (∀ q, r = .ok q → Φ .non (.one p (.ins C q.1 q.2) :: Mr)) ∧ ∀ X, r = .error X → Ξ X (.one p (.ins C [] []) :: Mr)
/-- what is written on the top of M leaves the rest -/
instance (priority := low) seq_more {M : Ms} {e : Ent} {x : Dt} {ds : List Dt} [h : SeqC M x ds] : SeqC (e :: M) x ds := ⟨h.h.more⟩
theorem seqC_of {M : Ms} {x : Dt} {ds : List Dt} (h : SeqD M ds x) : SeqC M x ds := ⟨h⟩
def RowsD (M : Ms) (ds : List Dt) (ways : List (List Int)) : Prop := ds.length = ways.length ∧ ∀ (i : Nat) d, ds[i]? = some d → ∃ row, ways[i]? = some row ∧ SeqD M (row.map Dt.int) d
theorem RowsD.more {M : Ms} {e : Ent} {ds : List Dt} {ways : List (List Int)} (h : RowsD M ds ways) : RowsD (e :: M) ds ways := ⟨h.1, fun i d hd => let ⟨r, a, b⟩ := h.2 i d hd; ⟨r, a, b.more⟩⟩
section
variable {K : PySem.W.Frag} {B : Fr} {s : Sl} {M : Ms} {Φ : Dt → Ms → Prop} {te : TE} {t : TA} {n : Nat} {W : WX} {Ξ : Addr → Sl → Ms → Prop} {C : Addr} {R : Ms → List Dt → Except Addr Dt → Prop} {RI : Ms → List Dt → Except Addr (List Str × List Dt) → Prop}
  {vs : List V} {H : Hp} {Q : VK} {E : XK} {ts : TS} {N : List Str}
instance s_callXM [z : XOkC K B W Ξ] : Stp (EvW K B (tCallS (spG K n (fnXM R)) (WE W) t) s M Φ) (EvA K B t s M fun ds M1 => CallV (R M1) n ds fun r => ResX r (fun d => Φ d M1) fun C => Ξ C s M1) := ⟨fun h => e_call z.h (a_mono h fun ds M1 ⟨hn, r, hr, k⟩ =>
  ⟨hn, M1, [], by rw [List.append_nil], r, hr, fun d e => by show Φ d (M1 ++ []); rw [List.append_nil]; exact k.1 d e, fun C e => by show Ξ C s (M1 ++ []); rw [List.append_nil]; exact k.2 C e⟩)⟩
instance s_makeIM [z : XOkC K B W Ξ] : Stp (EvW K B (tMakeS C (spG K (n + 1) (fnIM C RI)) (WE W) t) s M Φ) (EvA K B t s M fun as M1 => CallV (RI M1) n as fun r => ResI r (fun fs ds => Φ (.ins C fs ds) M1) fun X => Ξ X s M1) := ⟨fun h => by
  refine fun G H σ Q L S q => h G H σ _ L S fun vs as M' G' H' L' e r ⟨hn, rr, hr, k1, k2⟩ p dx hp hdx hne => ?_
  have hpT : p ∉ B.T := fun z => L'.freshM hp (L'.tin p z)
  have Ld := L'.laid0 (o := .own p) hdx
  have hp' : upd H' dx (.own p) p = none := by rw [upd_ne hne.symm]; exact hp
  have Lx : Lay K B G' (.one p (.ins C [] []) :: M') (upd (upd H' dx (.own p)) p (.ins C dx [])) := Ld.laidM (c := .ins C [] []) hp' ⟨dx, [], upd_same, rfl, .nil⟩
  refine call_core (n := n + 1) (F := fnIM C RI) (ds := .ref p :: as) (Ma := .one p (.ins C [] []) :: M') (Mr := []) (Φ := fun d M2 => d = .non ∧ ∃ f, rr = .ok f ∧ M2 = .one p (.ins C f.1 f.2) :: M') (Ξc := fun X s2 M2 => s2 = s ∧ rr = .error X ∧ M2 = .one p (.ins C [] []) :: M') (fun X s2 M2 G2 H2 σ2 L2 S2 k => ?_) (by simpa using hn) (by rw [List.append_nil])
    ⟨p, as, M', rr, rfl, rfl, hr, fun f e => ⟨rfl, f, e, by rw [List.append_nil]⟩, fun X e => ⟨rfl, e, by rw [List.append_nil]⟩⟩ Lx (S.mono e) (.cons (.ref p) r) fun v d M2 G2 H2 L2 e2 r2 k => ?_
  · obtain ⟨rfl, e, rfl⟩ := k
    exact z.h X s2 M' G2 H2 σ2 (L2.forget hpT) S2 (k2 X e)
  · obtain ⟨rfl, f, e3, rfl⟩ := k
    obtain ⟨G3, L3, e4, r4⟩ := freeze_ins hpT L2
    exact ⟨r2.nonOf, q _ _ M' G3 H2 L3 ((e.trans e2).trans e4) r4 (k1 f e3)⟩⟩
theorem enterXM (h : spG K n (fnXM R) vs H Q E)
    (k : ∀ (B : Fr) (M : Ms) (ds : List Dt) (r : Except Addr Dt), R M ds r → XOkC K B (WF E) (fun C _ M' => r = .error C ∧ M' = M) → WPs K B ts { nx := fun _ M' => r = .ok .non ∧ M' = M, rt := fun d' M' => r = .ok d' ∧ M' = M } (startD N.length ds) M) :
    ts { nx := fun _ H' => Q .non H', rt := Q } (L2.start N vs) H := by
  obtain ⟨hl, G, M, ds, Φ, Ξ, L, r, ⟨x, hr, k1, k2⟩, kQ, kE⟩ := h
  refine k ⟨G, H, fpM M⟩ M ds x hr ⟨fun C s M' G' H' σ L' _ z => ?_⟩ _ G H _ ⟨fun s M' G' H' σ z L' _ _ => ?_, fun v d M' G' H' z L' _ r' => ?_, fun _ _ _ _ _ x => x.elim, fun _ _ _ _ _ x => x.elim⟩ L (slots_start r)
  · obtain ⟨z, rfl⟩ := z; exact kE C _ _ _ L' (k2 C z)
  · obtain ⟨z, rfl⟩ := z; exact kQ .non .non _ G' H' L' .non (k1 _ z)
  · obtain ⟨z, rfl⟩ := z; exact kQ v _ _ G' H' L' r' (k1 _ z)
theorem enterIM (h : spG K n (fnIM C RI) vs H Q E)
    (k : ∀ (B : Fr) (p : Addr) (M : Ms) (as : List Dt) (r : Except Addr (List Str × List Dt)), RI M as r → XOkC K B (WF E) (fun X _ M' => r = .error X ∧ M' = .one p (.ins C [] []) :: M) →
      WPs K B ts { nx := fun _ M' => ∃ fs ds, M' = .one p (.ins C fs ds) :: M ∧ r = .ok (fs, ds), rt := fun d' M => False } (startD N.length (.ref p :: as)) (.one p (.ins C [] []) :: M)) :
    ts { nx := fun _ H' => Q .non H', rt := Q } (L2.start N vs) H := by
  obtain ⟨hl, G, M, ds, Φ, Ξ, L, r, ⟨p, as, Mr, x, rfl, rfl, hr, k1, k2⟩, kQ, kE⟩ := h
  refine k ⟨G, H, fpM _⟩ p Mr as x hr ⟨fun C s M' G' H' σ L' _ z => ?_⟩ _ G H _ ⟨fun s M' G' H' σ z L' _ _ => ?_, fun v d M' G' H' z L' _ r' => z.elim, fun _ _ _ _ _ x => x.elim, fun _ _ _ _ _ x => x.elim⟩ L (slots_start r)
  · obtain ⟨z, rfl⟩ := z; exact kE C _ _ _ L' (k2 C z)
  · obtain ⟨fs, ds, rfl, z⟩ := z
    exact kQ .non .non _ G' H' L' .non (k1 _ z)
/-- two ways meet -/
theorem br_join {p : Prop} {t1 t2 : TS} {s2 : Sl} {M2 : Ms} {nx bk ct : Sl → Ms → Prop} {rt : Dt → Ms → Prop} (I : Sl → Ms → Prop) (h : Br p (WPs K B t1 ⟨I, rt, bk, ct⟩ s M) (WPs K B t2 ⟨I, rt, bk, ct⟩ s2 M2)) (k : ∀ s M, I s M → nx s M) :
    Br p (WPs K B t1 ⟨nx, rt, bk, ct⟩ s M) (WPs K B t2 ⟨nx, rt, bk, ct⟩ s2 M2) :=
  ⟨fun z => w_mono (h.1 z) k (fun _ _ x => x) (fun _ _ x => x) (fun _ _ x => x), fun z => w_mono (h.2 z) k (fun _ _ x => x) (fun _ _ x => x) (fun _ _ x => x)⟩
/-! ### blocks -/
/-- one list more in a block -/
theorem Lay.merge {G : Hp} {ps : List Addr} {rows : List (List Dt)} {q : Addr} {r : List Dt} (L : Lay K B G (.one q (.lst r) :: .many ps rows :: M) H) : Lay K B G (.many (ps ++ [q]) (rows ++ [r]) :: M) H := by
  have hf : (fpM (.one q (.lst r) :: .many ps rows :: M)).Perm (fpM (.many (ps ++ [q]) (rows ++ [r]) :: M)) := by
    simp only [fpM_cons, Ent.fp]
    rw [← List.append_assoc]
    exact (List.perm_append_comm (l₁ := [q]) (l₂ := ps)).append_right _
  have hl := (L.ats (.many ps rows) (by simp)).1
  refine ⟨L.sub, hf.nodup_iff.mp L.nd, fun a ha => L.free a (hf.mem_iff.mpr ha), fun e he => ?_, L.keep, L.gfix, fun a ha => L.new a (hf.mem_iff.mpr ha), fun a ha => hf.mem_iff.mp (L.tin a ha)⟩
  rcases List.mem_cons.mp he with rfl | he
  · refine ⟨by simp [hl], fun i a ds ha hr => ?_⟩
    by_cases hi : i < ps.length
    · rw [List.getElem?_append_left hi] at ha
      rw [List.getElem?_append_left (by omega)] at hr
      exact (L.ats (.many ps rows) (by simp)).2 i a ds ha hr
    · rw [List.getElem?_append_right (by omega)] at ha
      rw [List.getElem?_append_right (by omega), ← hl] at hr
      have hz : i - ps.length = 0 := by
        have := (List.getElem?_eq_some_iff.mp ha).1
        simp at this; omega
      rw [hz] at ha hr
      simp only [List.getElem?_cons_zero, Option.some.injEq] at ha hr
      subst ha; subst hr
      exact L.ats (.one q (.lst r)) (by simp)
  · exact L.ats e (by simp [he])
theorem Lay.block0 {G : Hp} (L : Lay K B G M H) : Lay K B G (.many [] [] :: M) H :=
  ⟨L.sub, by simpa [fpM_cons, Ent.fp] using L.nd, fun a ha => L.free a (by simpa [fpM_cons, Ent.fp] using ha), fun e he => by
    rcases List.mem_cons.mp he with rfl | he
    · exact ⟨rfl, fun i a ds ha _ => by simp at ha⟩
    · exact L.ats e he, L.keep, L.gfix, fun a ha => L.new a (by simpa [fpM_cons, Ent.fp] using ha), fun a ha => by simpa [fpM_cons, Ent.fp] using L.tin a ha⟩
/-- [.. for x in xs], each element a new list that is owned -/
theorem e_lcMany {α : Type} {l : List α} {f : α → Dt} {tl : TE} {vs : List Nat} {j : Nat} (g : α → List Dt) (h : EvW K B tl s M fun x M1 => SeqD M1 (l.map f) x ∧ j ∈ vs ∧ l.length < 16777216 ∧
      (∀ a p acc Mx, a ∈ l → p ∉ B.T → EvW K B te ((wipeS s vs).set j (some (f a))) (.one p (.lst acc) :: Mx) fun e M3 => ∃ q, q ∉ B.T ∧ e = .ref q ∧ M3 = .one q (.lst (g a)) :: .one p (.lst acc) :: Mx) ∧
      ∀ p ps, p ∉ B.T → ps.length = l.length → (∀ q ∈ ps, q ∉ B.T) → Φ (.ref p) (.one p (.lst (refs ps)) :: .many ps (l.map g) :: M1)) : EvW K B (tLc (iList K tl) (gName j) tYes te vs) s M Φ := fun G H σ Q L S q =>
  h G H σ _ L S fun v x M1 G1 H1 L1 e1 r1 h' => by
    obtain ⟨hst, hj, hz, ht, hd⟩ := h'
    obtain ⟨a, xs, rfl, hx, _⟩ := hst.at L1 r1
    have S1 := S.mono e1
    let I : Nat → Addr → Hp → Prop := fun i D H => ∃ ps G2, ps.length = i ∧ (∀ q ∈ ps, q ∉ B.T) ∧ Lay K B G2 (.one D (.lst (refs ps)) :: .many ps ((l.take i).map g) :: M1) H ∧ Ex G1 G2
    refine ⟨a, rfl, ⟨xs, hx⟩, fun D hD => ⟨fun i m H => m = l.length - i ∧ i ≤ l.length ∧ I i D H, ⟨_, rfl, Nat.zero_le _, [], G1, rfl, by simp, ?_, Ex.refl _⟩, ?_⟩⟩
    · exact L1.block0.laidM (c := .lst []) hD ⟨[], upd_same, .nil⟩
    · have hT : D ∉ B.T := fun z => L1.freshM hD (L1.tin D z)
      rintro i m H2 ⟨rfl, hi, ps, G2, hp, hps, L2, x2⟩
      obtain ⟨a', vs2, e, hl2, t2⟩ := ((hst.more (e := .many ps ((l.take i).map g))).more (e := .one D (.lst (refs ps)))).at L2 (r1.mono x2)
      cases e
      by_cases qi : i < l.length
      · have hli : l[i]? = some l[i] := by simp [qi]
        obtain ⟨v, hv, rv⟩ := t2.get (get_map (f := f) hli)
        refine .inr ⟨⟨vs2, v, hl2, hv⟩, fun H' => I (i + 1) D H', fun H' p => ⟨l.length - (i + 1), by omega, rfl, qi, p⟩, fun y H' hy => ?_⟩
        obtain ⟨rfl, hy⟩ := hy
        have ey : y = v := Option.some.inj ((hy vs2 hl2).symm.trans hv)
        subst ey
        refine ⟨wipe_back σ hj _, ?_⟩
        change te _ _ _
        refine ht l[i] D (refs ps) _ (by simp) hT G2 H' _ _ L2 (((S1.mono x2).wipe vs).set j rv) fun y3 d3 M3 G3 H3 L3 e3 r3 k3 => ?_
        obtain ⟨q3, hq3, rfl, rfl⟩ := k3
        obtain ⟨ws, hw, tw⟩ := L3.ats (.one D (.lst (refs ps))) (by simp)
        refine ⟨ws, hw, sl_lt (by rw [tw.len]; simp; omega), ps ++ [q3], G3, by simp [hp], fun q hq => ?_, ?_, x2.trans e3⟩
        · rcases List.mem_append.mp hq with z | z
          · exact hps q z
          · rw [List.mem_singleton.mp z]; exact hq3
        · have La := L3.perm (List.Perm.swap _ _ _)
          have Lb := La.change (o := .lst (ws ++ [y3])) (c' := .lst (refs (ps ++ [q3]))) ⟨_, upd_same, by rw [refs, List.map_append]; exact tw.append (.one r3)⟩
          have Lc := Lb.perm ((List.Perm.swap _ _ _).trans ((List.Perm.swap _ _ _).cons _))
          have Ld := (Lb.perm (List.Perm.trans (List.Perm.swap _ _ _) ((List.Perm.swap _ _ _).cons _)))
          rw [take_snoc hli, List.map_append]
          exact (Lay.merge Ld).perm (List.Perm.swap _ _ _)
      · have e : i = l.length := by omega
        subst e
        refine .inl ⟨⟨vs2, hl2, by rw [t2.len, List.length_map]; exact Nat.le_refl _⟩, ?_⟩
        rw [List.take_length] at L2
        exact q _ _ _ G2 H2 L2 (e1.trans x2) (.ref D) (hd D ps hT hp hps)
end
/-! ### xs[i] = v -/
def tMany (t : TE) : TE := t
theorem ps_many {X : Cx} {st : Stmt} {te : TE} {g : TG} (h : PS X st (tAsg te g)) : PS X st (tAsg (tMany te) g) := h
def SetIx (M : Ms) (o z d : Dt) (Ψ : Ms → Prop) : Prop := ∃ a i n ds M3, o = .ref a ∧ z = .int i ∧ LUpd M a ds (ds.set n d) M3 ∧ ixN ds.length i = some n ∧ Ψ M3
theorem ixN_nat {n : Nat} {i : Int} (h0 : 0 ≤ i) (h : i < n) : ixN n i = some i.toNat := by
  have h1 : ¬ i < 0 := by omega
  simp [ixN, h0, h, h1]
theorem ixN_last {n : Nat} (h : 0 < n) : ixN n (-1) = some (n - 1) := by
  have h1 : ¬ (0 : Int) ≤ -1 := by omega
  have h2 : (-1 : Int) + n = ((n - 1 : Nat) : Int) := by omega
  simp [ixN]; omega
section
variable {K : PySem.W.Frag} {B : Fr} {s : Sl} {M M' : Ms} {to ti : TE} {d : Dt} {ds : List Dt} {a : Addr} {i : Int}
instance s_gsub {Ψ : Sl → Ms → Prop} : Stp (WPg K B (gSub to ti rSetL) d s M Ψ) (EvW K B to s M fun o M1 => EvW K B ti s M1 fun z M2 => SetIx M2 o z d fun M3 => Ψ s M3) := ⟨fun h => g_sub (e_mono h fun o M1 k => e_mono k fun z M2 ⟨a, i, n, ds, M3, h1, h2, h3, h4, h5⟩ => ⟨a, i, n, ds, M3, h1, h2, h3, h4, h5⟩)⟩
instance s_setix {n : Nat} {Ψ : Ms → Prop} [q : FindC M a (.lst ds)] [l : LenOf ds n] [u : PutC M a (.lst ds) (.lst (ds.set i.toNat d)) M'] : Stp (SetIx M (.ref a) (.int i) d Ψ) (Pre (0 ≤ i ∧ i < (n : Nat)) (Ψ M')) := ⟨fun k => ⟨a, i, i.toNat, ds, M', rfl, rfl, .one u.h, by rw [l.h]; exact ixN_nat k.1.1 k.1.2, k.2⟩⟩
instance s_setix_last {n : Nat} {Ψ : Ms → Prop} [q : FindC M a (.lst ds)] [l : LenOf ds n] [u : PutC M a (.lst ds) (.lst (ds.set (n - 1) d)) M'] : Stp (SetIx M (.ref a) (.int (-1)) d Ψ) (Pre (0 < n) (Ψ M')) := ⟨fun k => ⟨a, -1, n - 1, ds, M', rfl, rfl, .one u.h, by rw [l.h]; exact ixN_last k.1, k.2⟩⟩
/-- a row of a block -/
class BlockC (M : Ms) (ps : List Addr) (rows : outParam (List (List Dt))) : Prop where h : Ent.many ps rows ∈ M
instance block0 {ps : List Addr} {rows : List (List Dt)} : BlockC (.many ps rows :: M) ps rows := ⟨by simp⟩
instance (priority := low) blockS {ps : List Addr} {rows : List (List Dt)} {e : Ent} [h : BlockC M ps rows] : BlockC (e :: M) ps rows := ⟨List.mem_cons_of_mem _ h.h⟩
class PutB (M : Ms) (ps : List Addr) (rows : List (List Dt)) (j : Nat) (ds : List Dt) (M' : outParam Ms) : Prop where h : ∀ a ds0, ps[j]? = some a → rows[j]? = some ds0 → LUpd M a ds0 ds M'
instance putB0 {ps : List Addr} {rows : List (List Dt)} {j : Nat} : PutB (.many ps rows :: M) ps rows j ds (.many ps (rows.set j ds) :: M) := ⟨fun a ds0 h k => .row j h k⟩
instance (priority := low) putBS {ps : List Addr} {rows : List (List Dt)} {j : Nat} {e : Ent} [h : PutB M ps rows j ds M'] : PutB (e :: M) ps rows j ds (e :: M') := ⟨fun a ds0 x y => .there (h.h a ds0 x y)⟩
theorem get_gt {α : Type} [Inhabited α] {l : List α} {k : Int} (h0 : 0 ≤ k) (h : k < l.length) : l[k.toNat]? = some (gt l k) := by
  unfold gt; rw [List.getD_eq_getElem?_getD, List.getElem?_eq_getElem (by omega)]; rfl
theorem setIx_row {ps : List Addr} {rows : List (List Dt)} {k : Int} {Ψ : Ms → Prop} {ds0 : List Dt} [b : BlockC M ps rows] [u : PutB M ps rows k.toNat (ds0.set i.toNat d) M'] (h : 0 ≤ k ∧ k < ps.length) (hr : rows[k.toNat]? = some ds0) (hi : 0 ≤ i ∧ i < ds0.length) (q : Ψ M') : SetIx M (.ref (gt ps k)) (.int i) d Ψ :=
  ⟨_, i, i.toNat, ds0, M', rfl, rfl, u.h _ _ (get_gt h.1 h.2) hr, ixN_nat hi.1 hi.2, q⟩
theorem seqD_row {ps : List Addr} {rows : List (List Dt)} {k : Int} {ds0 : List Dt} [b : BlockC M ps rows] (h : 0 ≤ k ∧ k < ps.length) (hr : rows[k.toNat]? = some ds0) : SeqD M ds0 (.ref (gt ps k)) := .lst (.row k.toNat b.h (get_gt h.1 h.2) hr)
theorem rowsD_block {ps : List Addr} {ways : List (List Int)} [b : BlockC M ps (ways.map fun r => r.map Dt.int)] (hl : ps.length = ways.length) : RowsD M (refs ps) ways := ⟨by simp [hl], fun i d hd => by
  obtain ⟨p, hp, rfl⟩ := of_get_map hd
  have hi : i < ways.length := by have := (List.getElem?_eq_some_iff.mp hp).1; omega
  refine ⟨ways[i], by simp [hi], .lst (.row i b.h hp ?_)⟩
  rw [List.getElem?_map, List.getElem?_eq_getElem hi]; rfl⟩
end
theorem get_mapB {α β : Type} {l : List α} {f : α → β} {i : Nat} {a : α} (h : l[i]? = some a) : (l.map f)[i]? = some (f a) := by rw [List.getElem?_map, h]; rfl
end Ask
/-! Caught exceptions: asked for their class, handed to a def. -/
namespace Ask
open PySem PySem.Spec PyProof.Rows L2

/-- what a def promises that is handed the exception that is being handled -/
structure FnE (P : Program) (w : World) (K : PySem.W.Frag) (mg : Str → Option Value) (base : Heap) (CX : CXT) (k : Nat) (f : Addr) (fd : FuncData) (ps : List Str) (sp : Addr → Value → Sp) : Prop where
  len : ∀ a c vs H Q E, sp a c vs H Q E → vs.length = ps.length
  run : ∀ (A : Around) (outer : List Env) (s : Shared) (H : Hp) (args : Args) (us : List Value) (vs : List V) (Q : VK) (E : XK) (p : Addr × Obj) (c : Value), L2H.RoomH k A → L2H.PinOk outer H s p → Zc c none p.2 → (∃ xs, p.2.data = .fields xs) →
    Env0 P w K mg base A outer s H → BindsTo s fd args (ps.zip us) → L2.Vals vs us → sp p.1 c vs H Q E → codeAny (model P w) A (.call (.ref f) args) (CR CX outer P w H s Q E) s
section
variable {P : Program} {w : World} {K : PySem.W.Frag} {mg : Str → Option Value} {base : Heap} {CX : CXT}
theorem Fun.okE {x qual : Str} {st : Stmt} {f : Addr} {fd : FuncData} {N ps : List Str} {k : Nat} {sp : Addr → Value → Sp} (F : Fun K x qual st f fd) (S : FnScope N ps (defScope st)) (len : ∀ a c vs H Q E, sp a c vs H Q E → vs.length = ps.length)
    (hb : ∀ (cdv : Value) (A : Around) (outer : List Env) (s : Shared) (H : Hp) (vs : List V) (Q : VK) (E : XK) (p : Addr × Obj) (c : Value), Zc c none p.2 → (∃ xs, p.2.data = .fields xs) → L2H.RoomH k (A.deeper (envOfC qual (defScope st) s.heap.objs.size f cdv)) → sp p.1 c vs H Q E →
      ∃ t, PSs (L2H.cxH CX P w K mg base N qual (defScope st) f cdv A outer s H E p) (defBody st) t ∧ t { nx := fun _ H' => Q .non H', rt := Q } (L2.start N vs) H) : FnE P w K mg base CX (k + 1) f fd ps sp := by
  obtain ⟨oc, od, kV, doc, pm, an, cdv, ct, osl, rfl, lk, hcd⟩ := F.ex
  refine ⟨len, fun A outer s H args us vs Q E p c hr hpin hz hf e0 hbi r hsp => ?_⟩
  have hl : vs.length = ps.length := len _ _ _ _ _ _ hsp
  have grown : ∀ b o, base.get? b = some o → s.heap.get? b = some o := fun b o e => (e0.bs b o e).1
  have KX := e0.mod.kin.keeps grown
  have kinds : ∀ y ∈ ps.zip us, (defScope st).names.lookup y.1 = some .local ∨ ((defScope st).names.lookup y.1 = some .cell ∧ ((cellsFrom (s.heap.objs.size + 1) (defScope st).names []).lookup y.1).isSome = true) := by
    rintro ⟨n, v⟩ hy
    rcases S.par n (List.of_mem_zip hy).1 with q | q
    · exact Or.inl q
    · exact Or.inr ⟨q, PySem.W.cellsFrom_some _ _ _ (Or.inl q)⟩
  refine codeAny_call_function hr.depth (KX _ _ lk) rfl S.co S.gen rfl (PySem.W.codeRec_of KX hcd) (hbi _ _ _ _ (wpAny_newFunctionEnv_cells S.kind kinds fun env he s1 x => ?_))
  subst he
  refine ⟨(e0.mod.nolimit.keeps grown).keeps x.toInCall.keep, codeAny_func ?_⟩
  obtain ⟨t, ht, hq⟩ := hb cdv A outer s H vs Q E p c hz hf (hr.deeper _) hsp
  refine wpAny_mono (ht.run [] s1 _ H _ (L2H.inv_startH S hpin e0 hl r x) hq) (fun fl s' hs => ?_) fun e s' hs => hs
  cases fl with
  | ret u => obtain ⟨v, σ', H', J, rv, q⟩ := hs; exact ⟨v, H', J.os, J.bare, J.base, J.hok, rv, q⟩
  | next => obtain ⟨σ', H', J, q⟩ := hs; exact ⟨V.non, H', J.os, J.bare, J.base, J.hok, rfl, q⟩
  | brk => obtain ⟨_, _, _, q⟩ := hs; exact q.elim
  | cont => obtain ⟨_, _, _, q⟩ := hs; exact q.elim
end
section
variable {X : Cx} {CX : CXT} {k : Nat} {f : Addr} {fd : FuncData} {ps : List Str} {sp : Addr → Value → Sp} {E : L2.St → XK} {x : Str} {q pos : Pos} {e : Expr} {es : List Expr} {t : TA} {a : Addr} {oe : Obj} {cls : Value} {d : Option Addr}
/-- such a call; the exception has no dict -/
def tCallE (d : Option Addr) (sp : Sp) (E : L2.St → XK) (t : TA) : TE := fun σ H Q => d = none ∧ tCallS sp E t σ H Q
theorem pe_callE (F : FnE X.prog X.w X.K X.mg X.base CX k f fd ps sp) (hr : L2H.RoomH k X.A) (hp : (a, oe) ∈ X.pn) (hz : Zc cls d oe) (hf : ∃ xs, oe.data = .fields xs) (hg : Gl X x) (hm : X.mg x = some (.ref f)) (hk : PySem.W.keepIn X.K (.ref f) = true) (hb : Binds X.K fd ps [])
    (hx : ∀ σ, PassesAt CX X σ (E σ)) (ha : PA X (e :: es) t) (hdb : (x == ("__debug__" : Str)) = false := by decide) (he : starEach (e :: es) X.env = (false, eval e X.env) :: starEach es X.env := by rfl) (hpl : (backTo pos (starEach es X.env)).any (·.1) = false := by rfl) :
    PE X (.Call (.Name x q) (e :: es) [] pos) (tCallE d (sp a cls) E t) := by
  refine ⟨fun pins s σ H Q I h => ?_⟩
  obtain ⟨rfl, h⟩ := h
  refine wpAny_Call_Name_kw (ld_glob I hg hm (PySem.W.callWith_K (h₀ := X.base) I.ok.mod.kin hk (thn (ha.run pos pins s σ H _ I h) fun us s1 ⟨vs, H1, I1, r, q⟩ => ⟨I1.kIn, ?_⟩) he hpl) hdb)
  have P1 := I1.pin (a, oe) (List.mem_append_left _ hp)
  have hl : us.length = ps.length := by rw [← r.length]; exact F.len _ _ _ _ _ _ q
  have b := hb s1 us I1.kIn (by rw [List.append_nil]; exact hl)
  rw [List.append_nil] at b
  refine wpAny_call (codeAny_mono (F.run X.A X.stack s1 H1 ⟨us, []⟩ us vs Q (E σ) (a, oe) cls hr ⟨P1.1, P1.2.1, fun hm => (List.mem_cons.mp (I1.stkSub a hm)).elim P1.2.2.1 P1.2.2.2.1, P1.2.2.2.2⟩ hz hf I1.env0 b r q) fun r s' hq => ?_)
  cases r with
  | error e => exact hx σ pins H1 s1 e s' I1 hq
  | ok fl => cases fl with
    | ret u => exact I1.after hq
    | next | brk | cont => exact hq.elim
/-- isinstance(e, C), isinstance(e, (C, ..)) -/
def rIsX (K : PySem.W.Frag) (a : Addr) (cls : Value) (d : Option Addr) : List V → Hp → VK → Prop := fun xs H Q => ∃ (D : Addr) (c : V) (u : Value) (b : Bool), d = none ∧ cls = .ref D ∧ ExcC K D ∧ xs = [.ref a, c] ∧ ClsV c u ∧ PySem.W.kitOne K (.ref D) u = some b ∧ Q (.bl b) H
def rIsXT (K : PySem.W.Frag) (a : Addr) (cls : Value) (d : Option Addr) : List V → Hp → VK → Prop := fun xs H Q => ∃ (D tp : Addr) (cs : List V) (us : List Value) (b : Bool), d = none ∧ cls = .ref D ∧ ExcC K D ∧ xs = [.ref a, .ref tp] ∧ H tp = some (.tup cs) ∧ Paired ClsV cs us ∧ PySem.W.kitAny K (.ref D) us = some b ∧ Q (.bl b) H
theorem inst_at {pins : List (Addr × Obj)} {σ : L2.St} {H : Hp} {s : Shared} {D : Addr} (hp : (a, oe) ∈ X.pn) (hz : Zc (.ref D) none oe) (hf : ∃ xs, oe.data = .fields xs) (I : Inv X pins σ H s) : PySem.W.InstAt s.heap a oe D none := by
  have hget := (I.pin (a, oe) (List.mem_append_left _ hp)).1
  obtain ⟨oc, od, oda, osl⟩ := oe
  obtain ⟨vs, hv⟩ := hf
  obtain ⟨h1, h2⟩ := hz
  dsimp only at h1 h2 hv
  subst h1 h2 hv
  exact ⟨hget, rfl, rfl, trivial⟩
theorem call_isX {K : PySem.W.Frag} (hK : X.K = K) (hp : (a, oe) ∈ X.pn) (hz : Zc cls d oe) (hf : ∃ xs, oe.data = .fields xs) : CallR X (.builtin "isinstance") (rIsX K a cls d) := by
  subst hK
  intro pins s σ H xs us Q I r h
  obtain ⟨D, c, u, b, rfl, rfl, C, rfl, hc, e, q⟩ := h
  obtain ⟨u1, u2, rfl, r1, r2⟩ := vals2 r
  cases (show u1 = Value.ref a from r1)
  have e2 := hc.eq r2
  subst e2
  exact PySem.W.kia_one (PySem.W.handS_kitx_exc C.hg C.hk C.hs C.hd C.ha C.hn C.ht C.hm) I.kIn (inst_at hp hz hf I) e (fun z => nomatch z) fun tk => ⟨.bl b, H, I.tok tk, rfl, q⟩
theorem call_isXT {K : PySem.W.Frag} (hK : X.K = K) (hp : (a, oe) ∈ X.pn) (hz : Zc cls d oe) (hf : ∃ xs, oe.data = .fields xs) : CallR X (.builtin "isinstance") (rIsXT K a cls d) := by
  subst hK
  intro pins s σ H xs us Q I r h
  obtain ⟨D, tp, cs, ws, b, rfl, rfl, C, rfl, hT, hc, e, q⟩ := h
  obtain ⟨u1, u2, rfl, r1, r2⟩ := vals2 r
  cases (show u1 = Value.ref a from r1)
  cases (show u2 = Value.ref tp from r2)
  obtain ⟨_, its, rv, o, h1, h2, n, h3⟩ := (show ObjOk X.prog X.w H s.heap tp (.tup cs) from I.hok tp _ hT)
  have e3 := ClsV.all hc rv
  subst e3
  obtain ⟨oc, od, dt, sl⟩ := o
  simp only at h2 h3
  subst h2 h3
  exact PySem.W.kia_tup (PySem.W.handS_kitx_exc C.hg C.hk C.hs C.hd C.ha C.hn C.ht C.hm) I.kIn (inst_at hp hz hf I) h1 e (fun z => nomatch z) fun tk => ⟨.bl b, H, I.tok tk, rfl, q⟩
end

theorem roomE {j k : Nat} {A : Around} {v : Option Value} (r : Room j A) (h : k ≤ j) : L2H.RoomH k (A.mark v) := ⟨(r.mono h).dp, (r.mono h).un⟩
/-! ### classes of exceptions -/
theorem kit_of_sub {K : PySem.W.Frag} {D C : Addr} {b : Bool} (hd : PySem.W.hasDictIn K C = true) (ht : PySem.W.typeIn K (.ref C) = some (.type "type")) (hs : PySem.W.subIn K (.ref D) (.ref C) = some b) (h1 : PySem.W.subIn K (.ref C) (.ref C) = some true) : PySem.W.kitOne K (.ref D) (.ref C) = some b := by
  unfold PySem.W.kitOne
  by_cases e : D = C
  · subst e
    rw [h1] at hs
    rw [if_pos (by simp)]; exact hs
  · have hne : ¬ ((Value.ref D == Value.ref C) = true) := by simpa using e
    rw [if_neg hne]
    obtain ⟨cd, hc, _⟩ := PySem.W.any_some hd
    unfold PySem.W.kitCls
    simp only [hc, ht, Option.isSome_some, Bool.true_and]
    rw [if_pos (by first | rfl | simp)]; exact hs
theorem kit_of_val {K : PySem.W.Frag} {D : Addr} {b : Bool} (hs : PySem.W.subIn K (.ref D) (.type "ValueError") = some b) : PySem.W.kitOne K (.ref D) (.type "ValueError") = some b := by
  unfold PySem.W.kitOne
  rw [if_neg (by simp)]
  unfold PySem.W.kitCls
  simp only
  rw [if_pos (by decide +kernel)]; exact hs
/-- an own class of exceptions, ready to be caught and asked -/
class ExC (K : PySem.W.Frag) (D : Addr) : Prop where
  x : ExcC K D
  t : PySem.W.typeIn K (.ref D) = some (.type "type")
  s : PySem.W.subIn K (.ref D) (.ref D) = some true
/-- whether one stands under the other -/
class SubX (K : PySem.W.Frag) (D C : Addr) (b : outParam Bool) : Prop where h : PySem.W.subIn K (.ref D) (.ref C) = some b
instance sub_self {K : PySem.W.Frag} {D : Addr} [h : ExC K D] : SubX K D D true := ⟨h.s⟩
class ValX (K : PySem.W.Frag) (D : Addr) : Prop where h : PySem.W.subIn K (.ref D) (.type "ValueError") = some true
class KitX (K : PySem.W.Frag) (D : Addr) (u : Value) (b : outParam Bool) : Prop where h : PySem.W.kitOne K (.ref D) u = some b
instance kitX_ref {K : PySem.W.Frag} {D C : Addr} {b : Bool} [h : ExC K C] [s : SubX K D C b] : KitX K D (.ref C) b := ⟨kit_of_sub h.x.hd h.t s.h h.s⟩
instance kitX_val {K : PySem.W.Frag} {D : Addr} [h : ValX K D] : KitX K D (.type "ValueError") true := ⟨kit_of_val h.h⟩
theorem exm_of {K : PySem.W.Frag} {D C : Addr} {b : Bool} [h : ExC K C] [s : SubX K D C b] : PySem.W.exmOne K (.ref D) (.ref C) = some b := PySem.W.exm_ref h.x.hs h.x.hd h.t s.h
class PairC (cs : List Dt) (us : outParam (List Value)) : Prop where h : ∀ (K : PySem.W.Frag) (G : Hp) (vs : List V), RepAll K G vs cs → Paired ClsV vs us
instance pairC0 : PairC [] [] := ⟨fun _ _ _ r => by cases r; exact .nil⟩
instance pairCr {C : Addr} {cs : List Dt} {us : List Value} [h : PairC cs us] : PairC (.ref C :: cs) (.ref C :: us) := ⟨fun K G vs r => by
  cases r with | cons a b => rw [a.refOf]; exact .cons (.own C) (h.h K G _ b)⟩
instance pairCt {n : String} {cs : List Dt} {us : List Value} [h : PairC cs us] : PairC (.ty n :: cs) (.type n :: us) := ⟨fun K G vs r => by
  cases r with | cons a b => rw [a.tyOf]; exact .cons (.ty n) (h.h K G _ b)⟩
class NoneX (K : PySem.W.Frag) (D : Addr) (us : List Value) : Prop where h : PySem.W.kitAny K (.ref D) us = some false
instance noneX0 {K : PySem.W.Frag} {D : Addr} : NoneX K D [] := ⟨rfl⟩
instance noneXS {K : PySem.W.Frag} {D : Addr} {u : Value} {us : List Value} [h : KitX K D u false] [t : NoneX K D us] : NoneX K D (u :: us) := ⟨by
  unfold PySem.W.kitAny; rw [h.h]; exact t.h⟩
section
variable {K : PySem.W.Frag} {B : Fr} {s : Sl} {M : Ms} {Φ : Dt → Ms → Prop} {a D : Addr} {c : Dt} {t : TA} {E : L2.St → XK} {sp : Sp}
instance s_isX {u : Value} {b : Bool} [h : ExC K D] [k : ClsC c u] [q : KitX K D u b] : Stp (OpN K B (rIsX K a (.ref D) none) [.ref a, c] M Φ) (Φ (.bl b) M) := ⟨fun z G H vs Q L rs qq => by
  cases rs with | cons r1 r0 => cases r0 with | cons r2 r0 =>
    cases r0
    rename_i v w
    have cw : ClsV w u := by
      rcases k.h with ⟨n, rfl, rfl⟩ | ⟨C, rfl, rfl⟩
      · rw [r2.tyOf]; exact .ty n
      · rw [r2.refOf]; exact .own C
    exact ⟨D, w, u, b, rfl, rfl, h.x, by rw [r1.refOf], cw, q.h, qq _ _ M G H L (Ex.refl G) (.bl _) z⟩⟩
instance s_isXT {cs : List Dt} {us : List Value} [h : ExC K D] [k : PairC cs us] [q : NoneX K D us] : Stp (OpN K B (rIsXT K a (.ref D) none) [.ref a, .tup cs] M Φ) (Φ (.bl false) M) := ⟨fun z G H vs Q L rs qq => by
  cases rs with | cons r1 r0 => cases r0 with | cons r2 r0 =>
    cases r0
    obtain ⟨tp, ws, rfl, e, r⟩ := r2.tupOf
    exact ⟨D, tp, ws, us, false, rfl, rfl, h.x, by rw [r1.refOf], L.sub _ _ e, k.h K G ws r, q.h, qq _ _ M G H L (Ex.refl G) (.bl _) z⟩⟩
instance s_callE : Stp (EvW K B (tCallE none sp E t) s M Φ) (EvW K B (tCallS sp E t) s M Φ) := ⟨fun h G H σ Q L S q => ⟨rfl, h G H σ Q L S q⟩⟩
/-! ### try .. except C as e -/
def tTryAs (K : PySem.W.Frag) (c : Value) (i : Nat) (tb : WX → TS) (ts : Addr → Value → Option Addr → TS) (Wout : WX) : TS := fun D σ H => tb (wAs K c i ts Wout D) D σ H
theorem ps_tryAs {X : Cx} (hK : X.K = K) {x n : Str} {c : Value} {i : Nat} {body suite : List Stmt} {b₀ : Stmt} {np pos pos' : Pos} {tb : WX → TS} {ts : Addr → Value → Option Addr → TS} {Wout : WX} (hs : X.stack = X.env :: X.outer) (hf : X.env.frame = some X.env.locals) (hN : X.N.Nodup) (hi : X.N[i]? = some n)
    (hln : X.env.kindOf n = some .local) (hc : Names X x c) (tk : Takes X Wout) (hb : ∀ (W : WX) (pn : List (Addr × Obj)) (xe : Value → Shared → Prop), Takes (X.tr pn xe) W → PassesOwn (model X.prog X.w) X.A X.env xe → PSs (X.tr pn xe) body (tb W))
    (hsu : ∀ (a : Addr) (oe : Obj) (cls : Value) (d : Option Addr) (pn : List (Addr × Obj)), Zc cls d oe → (∃ vs, oe.data = .fields vs) → PSs (X.suite a ((a, oe) :: pn)) (b₀ :: suite) (ts a cls d)) :
    PS X (.Try body [.ExceptHandler (some (.Name x np)) (some n) (b₀ :: suite) pos'] [] [] pos) (tTryAs K c i tb ts Wout) := hK ▸ ps_try_as hs hf hN hi hln hc tk hb hsu
theorem w_tryAs {C : Addr} {i : Nat} {tb : WX → TS} {ts : Addr → Value → Option Addr → TS} {Wout : WX} {Ξ : Addr → Sl → Ms → Prop} [z : XOkC K B Wout Ξ] {nx bk ct : Sl → Ms → Prop} {rt : Dt → Ms → Prop}
    (h : ∀ (B' : Fr) (W : WX), B'.T = fpM M → XOkC K B' W (fun D s' M' => ∃ b, PySem.W.exmOne K (.ref D) (.ref C) = some b ∧ (b = true → ∀ a, WPs K B (ts a (.ref D) none) ⟨fun s M => nx (s.set i none) M, rt, fun s M => bk (s.set i none) M, fun s M => ct (s.set i none) M⟩ (s'.set i (some (.ref a))) M') ∧ (b = false → Ξ D s' M')) →
      WPs K B' (tb W) ⟨nx, rt, bk, ct⟩ s M) : WPs K B (tTryAs K (.ref C) i tb ts Wout) ⟨nx, rt, bk, ct⟩ s M := fun D G H σ ok L S => by
  have Ln : Lay K B G (M ++ []) H := by rw [List.append_nil]; exact L
  have back : ∀ {G' H' : Hp} {M' : Ms}, Lay K ⟨G, H, fpM M⟩ G' M' H' → Lay K B G' M' H' := fun {G' H' M'} L' => by
    have := Lay.back Ln L'
    rwa [List.append_nil] at this
  refine h ⟨G, H, fpM M⟩ (wAs K (.ref C) i ts Wout D) rfl ⟨fun Cx s' M' G' H' σ' L' S' hx => ?_⟩ D G H σ ⟨fun s M G' H' σ k L' x S' => ok.1 s M G' H' σ k (back L') x S', fun v d M G' H' k L' x r => ok.2.1 v d M G' H' k (back L') x r, fun s M G' H' σ k L' x S' => ok.2.2.1 s M G' H' σ k (back L') x S', fun s M G' H' σ k L' x S' => ok.2.2.2 s M G' H' σ k (back L') x S'⟩ Ln.enter S
  obtain ⟨b, hb, h1, h2⟩ := hx
  have x : Ex G G' := L'.grown L.sub
  refine ⟨b, hb, fun e a ha => ?_, fun e => z.h Cx s' M' G' H' σ' (back L') S' (h2 e)⟩
  refine h1 e a _ G' H' _ ⟨fun s M G2 H2 σ2 k L2 x2 S2 => ok.1 _ M G2 H2 _ k L2 (x.trans x2) (S2.wipe1 i), fun v d M G2 H2 k L2 x2 r => ok.2.1 v d M G2 H2 k L2 (x.trans x2) r, fun s M G2 H2 σ2 k L2 x2 S2 => ok.2.2.1 _ M G2 H2 _ k L2 (x.trans x2) (S2.wipe1 i), fun s M G2 H2 σ2 k L2 x2 S2 => ok.2.2.2 _ M G2 H2 _ k L2 (x.trans x2) (S2.wipe1 i)⟩ (back L') (S'.set i (.ref a))
/-- two texts -/
instance s_eqS {x y : Str} : Stp (Op2 K B (rEqD K) (.str x) (.str y) M Φ) (Pre (PyData.strOk x = true ∧ PyData.strOk y = true) (Φ (.bl (decide (x = y))) M)) := ⟨fun k => p_eqX (x' := .str x) (y' := .str y) (.imm k.1.1) (.imm k.1.2) rfl k.1.1 k.1.2 (Nat.zero_le _) (Nat.zero_le _) fun b hb => by
  have : b = decide (x = y) := by rw [Bool.eq_iff_iff]; simpa using hb
  rw [this]; exact k.2⟩
instance s_neS {x y : Str} : Stp (Op2 K B (rNeD K) (.str x) (.str y) M Φ) (Pre (PyData.strOk x = true ∧ PyData.strOk y = true) (Φ (.bl (decide (x ≠ y))) M)) := ⟨fun k => p_neX (x' := .str x) (y' := .str y) (.imm k.1.1) (.imm k.1.2) rfl k.1.1 k.1.2 (Nat.zero_le _) (Nat.zero_le _) fun b hb => by
  have : b = decide (x ≠ y) := by cases b <;> simp_all
  rw [this]; exact k.2⟩
instance s_exm_yes {D C : Addr} {P Q : Prop} [h : ExC K C] [k : SubX K D C true] : Stp (∃ b, PySem.W.exmOne K (.ref D) (.ref C) = some b ∧ (b = true → P) ∧ (b = false → Q)) P := ⟨fun p => ⟨true, exm_of, fun _ => p, fun e => Bool.noConfusion e⟩⟩
instance s_exm_no {D C : Addr} {P Q : Prop} [h : ExC K C] [k : SubX K D C false] : Stp (∃ b, PySem.W.exmOne K (.ref D) (.ref C) = some b ∧ (b = true → P) ∧ (b = false → Q)) Q := ⟨fun p => ⟨false, exm_of, fun e => Bool.noConfusion e, fun _ => p⟩⟩
instance (priority := high) s_slW {ts : TS} {P : Post} {j : Nat} {x : Option Dt} {s2 : Sl} [m : SetC s j x s2] : Stp (WPs K B ts P (s.set j x) M) (WPs K B ts P s2 M) := ⟨fun k => by rw [m.h]; exact k⟩
end
end Ask
/-! Cuts, rows of blocks, insert, pop. -/
namespace Ask
open PySem L2
section
variable {K : PySem.W.Frag} {B : Fr} {s : Sl} {M M' : Ms} {Φ : Dt → Ms → Prop} {nx bk ct : Sl → Ms → Prop} {rt : Dt → Ms → Prop}
/-- the first n + 1 statements apart -/
class Cut (n : Nat) (t : TS) (a r : outParam TS) : Prop where h : t = tSeq a r
instance cut0 {a r : TS} : Cut 0 (tSeq a r) a r := ⟨rfl⟩
instance cutS {n : Nat} {t u a r : TS} [c : Cut n u a r] : Cut (n + 1) (tSeq t u) (tSeq t a) r := ⟨by rw [c.h]; rfl⟩
theorem w_cut (n : Nat) {t a r : TS} [c : Cut n t a r] (I : Sl → Ms → Prop) (h : WPs K B a ⟨I, rt, bk, ct⟩ s M) (k : ∀ s M, I s M → WPs K B r ⟨nx, rt, bk, ct⟩ s M) : WPs K B t ⟨nx, rt, bk, ct⟩ s M := by
  rw [c.h]
  exact w_seq (P := ⟨nx, rt, bk, ct⟩) (w_mono h k (fun _ _ x => x) (fun _ _ x => x) (fun _ _ x => x))
instance setSet {s s1 s2 : Sl} {i j : Nat} {x y : Option Dt} [a : SetC s j x s1] [b : SetC s1 i y s2] : SetC (s.set j x) i y s2 := ⟨by rw [a.h, b.h]⟩
/-- what holds of a row -/
class RowAt (rows : List (List Dt)) (k : Nat) (ds : outParam (List Dt)) : Prop where h : rows[k]? = some ds
class InB (ps : List Addr) (k : Int) : Prop where h : 0 ≤ k ∧ k < ps.length
instance lst_row {ps : List Addr} {rows : List (List Dt)} {k : Int} {ds : List Dt} [b : BlockC M ps rows] [r : RowAt rows k.toNat ds] [i : InB ps k] : LstC M (.ref (gt ps k)) ds := ⟨.row k.toNat b.h (get_gt i.h.1 i.h.2) r.h⟩
instance seq_row {ps : List Addr} {rows : List (List Dt)} {k : Int} {ds : List Dt} [b : BlockC M ps rows] [r : RowAt rows k.toNat ds] [i : InB ps k] : SeqC M (.ref (gt ps k)) ds := ⟨.lst (.row k.toNat b.h (get_gt i.h.1 i.h.2) r.h)⟩
class LPut (M : Ms) (p : Addr) (ds ds' : List Dt) (M' : outParam Ms) : Prop where h : LUpd M p ds ds' M'
instance (priority := low) lput_one {p : Addr} {ds ds' : List Dt} [c : PutC M p (.lst ds) (.lst ds') M'] : LPut M p ds ds' M' := ⟨.one c.h⟩
instance lput_row {ps : List Addr} {rows : List (List Dt)} {k : Int} {ds ds' : List Dt} [b : BlockC M ps rows] [u : PutB M ps rows k.toNat ds' M'] [r : RowAt rows k.toNat ds] [i : InB ps k] : LPut M (gt ps k) ds ds' M' := ⟨u.h _ _ (get_gt i.h.1 i.h.2) r.h⟩
variable {p : Addr} {ds : List Dt} {i : Int} {d x : Dt} {n : Nat}
instance (priority := low) s_appendL [f : LstC M (.ref p) ds] [u : LPut M p ds (ds ++ [d]) M'] [e : LenOf ds n] : Stp (OpM K B rAppend (.ref p) [d] M Φ) (Pre (n < 16777216) (Φ .non M')) := ⟨fun k => m_append u.h (by rw [e.h]; exact k.1) k.2⟩
instance (priority := low) s_setixL {Ψ : Ms → Prop} [q : LstC M (.ref p) ds] [l : LenOf ds n] [u : LPut M p ds (ds.set i.toNat d) M'] : Stp (SetIx M (.ref p) (.int i) d Ψ) (Pre (0 ≤ i ∧ i < (n : Nat)) (Ψ M')) := ⟨fun k => ⟨p, i, i.toNat, ds, M', rfl, rfl, u.h, by rw [l.h]; exact ixN_nat k.1.1 k.1.2, k.2⟩⟩
def rInsert : V → List V → Hp → VK → Prop := fun x vs H Q => ∃ (l : Addr) (xs : List V) (i : Int) (y : V), x = .ref l ∧ vs = [.int i, y] ∧ H l = some (.lst xs) ∧ xs.length < sizeLine ∧ 0 ≤ i ∧ i < 2 ^ 63 ∧
    Q .non (L2.upd H l (.lst (xs.take i.toNat ++ [y] ++ xs.drop i.toNat)))
theorem mtk_insert {X : Cx} : MtR X "list.insert" rInsert := mt_insert
instance s_insert [f : LstC M (.ref p) ds] [u : LPut M p ds (ds.take i.toNat ++ [d] ++ ds.drop i.toNat) M'] [e : LenOf ds n] : Stp (OpM K B rInsert (.ref p) [.int i, d] M Φ) (Pre (n < 16777216 ∧ 0 ≤ i ∧ i < 9223372036854775808) (Φ .non M')) := ⟨fun k G H v vs Q L r rs q => by
  obtain ⟨ws, e1, t⟩ := u.h.at L
  cases rs with | cons r1 r0 => cases r0 with | cons r2 r0 =>
    cases r0
    refine ⟨p, ws, i, _, r.refOf, by rw [r1.intOf], e1, sl_lt (by rw [t.len, e.h]; exact k.1.1), k.1.2.1, by have := k.1.2.2; show i < 9223372036854775808; exact this, q _ _ M' G _ (L.updL u.h ?_) (Ex.refl G) .non k.2⟩
    exact ((t.take _).append (.one r2)).append (t.drop _)⟩
theorem seqIx_nat {n : Nat} {i : Int} (h0 : 0 ≤ i) (h : i < n) : seqIndex? i n = some i.toNat := (ixN_seq (ixN_nat h0 h)).1
instance s_popAt [f : LstC M (.ref p) ds] [u : LPut M p ds (ds.eraseIdx i.toNat) M'] [e : LenOf ds n] : Stp (OpM K B rPopAt (.ref p) [.int i] M Φ) (Pre (0 ≤ i ∧ i < (n : Nat) ∧ (n : Int) < 9223372036854775808) (∀ d, Φ d M')) := ⟨fun k G H v vs Q L r rs q => by
  obtain ⟨ws, e1, t⟩ := u.h.at L
  cases rs with | cons r1 r0 =>
    cases r0
    have hn : ws.length = n := t.len.trans e.h
    have hi : i.toNat < ds.length := by rw [e.h]; have := k.1.1; have := k.1.2.1; omega
    obtain ⟨y, hy, ry⟩ := t.get (List.getElem?_eq_getElem hi)
    refine ⟨p, ws, i, i.toNat, y, r.refOf, by rw [r1.intOf], e1, by have := k.1.1; omega, by have := k.1.2; show i < 9223372036854775808; omega, by rw [hn]; exact seqIx_nat k.1.1 k.1.2.1, hy, q _ _ M' G _ (L.updL u.h (t.erase _)) (Ex.refl G) ry (k.2 _)⟩⟩
instance s_pop [f : LstC M (.ref p) ds] [u : LPut M p ds ds.dropLast M'] [e : LenOf ds n] : Stp (OpM K B rPop (.ref p) [] M Φ) (Pre (0 < n) (∀ d, Φ d M')) := ⟨fun k G H v vs Q L r rs q => by
  obtain ⟨ws, e1, t⟩ := u.h.at L
  cases rs
  have hi : ws.length - 1 < ds.length := by rw [t.len, e.h]; have := k.1; omega
  obtain ⟨y, hy, ry⟩ := t.get (List.getElem?_eq_getElem hi)
  have hd : RepAll K G ws.dropLast ds.dropLast := by
    rw [List.dropLast_eq_take, List.dropLast_eq_take, t.len]; exact t.take _
  exact ⟨p, ws, y, r.refOf, rfl, e1, hy, q _ _ M' G _ (L.updL u.h hd) (Ex.refl G) ry (k.2 _)⟩⟩
/-- a list written out, asked at a number -/
theorem ix_lit {ds : List Dt} {Ψ : Dt → Prop} (h0 : 0 ≤ i) (h : i < ds.length) (k : ∀ j : Nat, (j : Int) = i → ∀ d, ds[j]? = some d → Ψ d) : Ix ds i Ψ := by
  have hj : i.toNat < ds.length := by omega
  exact ⟨ds[i.toNat], at_nat h0 (List.getElem?_eq_getElem hj), k i.toNat (by omega) _ (List.getElem?_eq_getElem hj)⟩
/-- a new block of lists comes back -/
def fnM (R : List Dt → List (List Dt) → Prop) : FT := fun ds M Φ _ => M = [] ∧ ∃ rows, R ds rows ∧ ∀ p ps, ps.length = rows.length → Φ (.ref p) [.one p (.lst (refs ps)), .many ps rows]
def OwnB (B : Fr) (Φ : Dt → Ms → Prop) (rows : List (List Dt)) (M : Ms) : Prop := ∀ p ps, p ∉ B.T → (∀ q ∈ ps, q ∉ B.T) → ps.length = rows.length → Φ (.ref p) (.one p (.lst (refs ps)) :: .many ps rows :: M)
variable {t : TA} {W : WX} {RM : List Dt → List (List Dt) → Prop}
instance s_callM : Stp (EvW K B (tOwn (tCallS (spG K n (fnM RM)) (WE W) t)) s M Φ) (EvA K B t s M fun ds M1 => CallV RM n ds fun rows => OwnB B Φ rows M1) := ⟨fun h G H σ Q L S q =>
  h G H σ _ L S fun vs ds M1 G1 H1 L1 e1 r ⟨hn, rows, hr, k⟩ => by
    refine ⟨r.len.trans hn, G1, [], ds, fun d M' => ∃ p ps, d = .ref p ∧ ps.length = rows.length ∧ M' = [.one p (.lst (refs ps)), .many ps rows], fun _ _ => False, (show Lay K B G1 ([] ++ M1) H1 from L1).enter, r, ⟨rfl, rows, hr, fun p ps hl => ⟨p, ps, rfl, hl, rfl⟩⟩, fun v d M' G' H' L' r' kk => ?_, fun _ _ _ _ _ k => k.elim⟩
    obtain ⟨p, ps, rfl, hl, rfl⟩ := kk
    have Lb : Lay K B G' ([.one p (.lst (refs ps)), .many ps rows] ++ M1) H' := Lay.back (Ma := []) L1 L'
    have fresh : ∀ a ∈ fpM [Ent.one p (.lst (refs ps)), .many ps rows], a ∉ B.T := fun a ha z => L1.freshM ((L'.new a ha).resolve_left (by simp [fpM])) (L1.tin a z)
    rw [r'.refOf]
    exact q _ _ _ G' H' Lb (e1.trans (L'.grown L1.sub)) (.ref p) (k p ps (fresh p (by simp [fpM, Ent.fp])) (fun a ha => fresh a (by simp [fpM, Ent.fp, ha])) hl)⟩
theorem enterM {R : List Dt → List (List Dt) → Prop} {vs : List V} {H : Hp} {Q : VK} {E : XK} {ts : TS} {N : List Str} (h : spG K n (fnM R) vs H Q E)
    (k : ∀ (B : Fr) (ds : List Dt) (rows : List (List Dt)), B.T = [] → R ds rows → XOkC K B (WF E) XF → WPs K B ts { nx := fun _ M => False, rt := fun d M => ∃ p ps, ps.length = rows.length ∧ d = .ref p ∧ M = [.one p (.lst (refs ps)), .many ps rows] } (startD N.length ds) []) :
    ts { nx := fun _ H' => Q .non H', rt := Q } (L2.start N vs) H := by
  obtain ⟨hl, G, M, ds, Φ, Ξ, L, r, ⟨rfl, es, hr, kd⟩, kQ, kE⟩ := h
  refine k ⟨G, H, []⟩ ds es rfl hr ⟨fun C s M' G' H' σ L' _ x => x.elim⟩ _ G H _ ⟨fun s M' G' H' σ x L' _ _ => x.elim, fun v d M' G' H' x L' _ r' => ?_, fun _ _ _ _ _ x => x.elim, fun _ _ _ _ _ x => x.elim⟩ L (slots_start r)
  obtain ⟨p, ps, hp, rfl, rfl⟩ := x
  exact kQ v _ _ G' H' L' r' (kd p ps hp)
/-- another way to say what is owned -/
theorem m_lay {r : V → List V → Hp → VK → Prop} {x : Dt} {xs : List Dt} (h : ∀ G H, Lay K B G M H → Lay K B G M' H) (k : OpM K B r x xs M' Φ) : OpM K B r x xs M Φ := fun G H v vs Q L => k G H v vs Q (h G H L)
theorem w_lay {ts : TS} {P : Post} (h : ∀ G H, Lay K B G M H → Lay K B G M' H) (k : WPs K B ts P s M') : WPs K B ts P s M := fun D G H σ ok L S => k D G H σ ok (h G H L) S
theorem a_lay {ta : TA} {Φ : List Dt → Ms → Prop} (h : ∀ G H, Lay K B G M H → Lay K B G M' H) (k : EvA K B ta s M' Φ) : EvA K B ta s M Φ := fun G H σ Q L => k G H σ Q (h G H L)
theorem e_lay {te : TE} (h : ∀ G H, Lay K B G M H → Lay K B G M' H) (k : EvW K B te s M' Φ) : EvW K B te s M Φ := fun G H σ Q L => k G H σ Q (h G H L)
theorem g_lay {g : TG} {d : Dt} {Ψ : Sl → Ms → Prop} (h : ∀ G H, Lay K B G M H → Lay K B G M' H) (k : WPg K B g d s M' Ψ) : WPg K B g d s M Ψ := fun G H σ v Q L => k G H σ v Q (h G H L)
theorem refs_snoc {ps : List Addr} {q : Addr} : refs (ps ++ [q]) = refs ps ++ [Dt.ref q] := by simp [refs]
/-- the list q joins the block behind p's cell -/
theorem lay_join {c : Cell} {ps : List Addr} {rows : List (List Dt)} {q : Addr} {r : List Dt} : ∀ G H, Lay K B G (.one q (.lst r) :: .one p c :: .many ps rows :: M) H → Lay K B G (.one p c :: .many (ps ++ [q]) (rows ++ [r]) :: M) H := fun G H L =>
  (Lay.merge (L.perm ((List.Perm.swap _ _ _).cons _))).perm (List.Perm.swap _ _ _) |> fun z => z
instance s_lstB : Stp (EvW K B (tMany (tLst tNil)) s M Φ) (∀ p, p ∉ B.T → Φ (.ref p) (.one p (.lst (refs [])) :: .many [] [] :: M)) := ⟨fun k G H σ Q L S q => e_lstM (B := B) (s := s) (M := .many [] [] :: M) (Φ := Φ) (a_nil ⟨by decide, fun p hp => k p hp⟩) G H σ Q L.block0 S q⟩
theorem eq_encV {α : Type} [DecidableEq α] {f : α → Dt} {n : Nat} {x y : Dt} (e : Enc f n) (hn : n ≤ 60) {a b : List α} (h : Val M x (.lst (a.map f))) (k : Val M y (.lst (b.map f))) (q : Φ (.bl (decide (a = b))) M) : Op2 K B (rEqD K) x y M Φ :=
  p_eqE e.lst (by omega) h k fun c hc => by
    have : c = decide (a = b) := by rw [Bool.eq_iff_iff]; simpa using hc
    rw [this]; exact q
theorem valD_block {ps : List Addr} {ways : List (List Int)} [f : FindC M p (.lst (refs ps))] [b : BlockC M ps (ways.map fun r => r.map Dt.int)] (hl : ps.length = ways.length) : Val M (.ref p) (dRows ways) := by
  refine .lst (.one f.h) ?_
  have key : ∀ (k : Nat) (qs : List Addr) (ws : List (List Int)), qs.length = ws.length → (∀ (i : Nat) a r, qs[i]? = some a → ws[i]? = some r → LstD M (r.map Dt.int) (.ref a)) → Vals M (refs qs) (ws.map dInts) := by
    intro k qs
    induction qs with
    | nil => intro ws hl _; cases ws with
      | nil => exact .nil
      | cons _ _ => simp at hl
    | cons q qs ih => intro ws hl hq; cases ws with
      | nil => simp at hl
      | cons w ws => exact .cons (.lst (hq 0 q w rfl rfl) (.imm (enc_int.dats w))) (ih ws (by simpa using hl) fun i a r h1 h2 => hq (i + 1) a r (by simpa using h1) (by simpa using h2))
  exact key 0 ps ways hl fun i a r h1 h2 => .row i b.h h1 (by rw [List.getElem?_map, h2]; rfl)
/-! ### what is owned stays from here on -/
theorem Lay.split {G H : Hp} {ps : List Addr} {rows : List (List Dt)} {q : Addr} {r : List Dt} (L : Lay K B G (.many (q :: ps) (r :: rows) :: M) H) : Lay K B G (.one q (.lst r) :: .many ps rows :: M) H := by
  have hf : fpM (.many (q :: ps) (r :: rows) :: M) = fpM (.one q (.lst r) :: .many ps rows :: M) := by simp [fpM_cons, Ent.fp]
  have h0 := L.ats (.many (q :: ps) (r :: rows)) (by simp)
  refine ⟨L.sub, hf ▸ L.nd, fun a ha => L.free a (hf ▸ ha), fun e he => ?_, L.keep, L.gfix, fun a ha => L.new a (hf ▸ ha), fun a ha => hf ▸ L.tin a ha⟩
  rcases List.mem_cons.mp he with rfl | he
  · exact h0.2 0 q r rfl rfl
  · rcases List.mem_cons.mp he with rfl | he
    · exact ⟨by simpa using h0.1, fun i a ds ha hr => h0.2 (i + 1) a ds (by simpa using ha) (by simpa using hr)⟩
    · exact L.ats e (List.mem_cons_of_mem _ he)
theorem Lay.unblock {G H : Hp} (L : Lay K B G (.many [] [] :: M) H) : Lay K B G M H :=
  ⟨L.sub, by simpa [fpM_cons, Ent.fp] using L.nd, fun a ha => L.free a (by simpa [fpM_cons, Ent.fp] using ha), fun e he => L.ats e (List.mem_cons_of_mem _ he), L.keep, L.gfix, fun a ha => L.new a (by simpa [fpM_cons, Ent.fp] using ha), fun a ha => by simpa [fpM_cons, Ent.fp] using L.tin a ha⟩
theorem frz_block : ∀ {ps : List Addr} {rows : List (List Dt)} {M : Ms} {G H : Hp}, Lay K B G (.many ps rows :: M) H → (∀ q ∈ ps, q ∉ B.T) → ∃ G', Lay K B G' M H ∧ Ex G G' ∧ RepAll K G' (ps.map V.ref) (rows.map Dt.lst)
  | [], [], M, G, H, L, _ => ⟨G, L.unblock, Ex.refl G, .nil⟩
  | q :: ps, r :: rows, M, G, H, L, h => by
    obtain ⟨G1, L1, e1, r1⟩ := freeze_lst (h q (by simp)) L.split
    obtain ⟨G2, L2, e2, r2⟩ := frz_block L1 fun a ha => h a (by simp [ha])
    exact ⟨G2, L2, e1.trans e2, .cons (r1.mono e2) r2⟩
  | [], _ :: _, M, G, H, L, _ => by have := (L.ats _ List.mem_cons_self).1; simp at this
  | _ :: _, [], M, G, H, L, _ => by have := (L.ats _ List.mem_cons_self).1; simp at this
theorem refs_vals {G : Hp} : ∀ {ps : List Addr} {vs : List V}, RepAll K G vs (refs ps) → vs = ps.map V.ref
  | [], _, .nil => rfl
  | p :: ps, _, .cons a b => by rw [a.refOf, refs_vals b]; rfl
theorem Slots.to {G : Hp} {σ : L2.St} {i : Nat} {a : Addr} (S : Slots K G σ s) (hs : s[i]? = some (some (.ref a))) (r : Rep K G (.ref a) d) : Slots K G σ (s.set i (some d)) := by
  refine ⟨by rw [List.length_set]; exact S.len, fun j e h => ?_⟩
  by_cases q : i = j
  · subst q
    have hl : i < s.length := (List.getElem?_eq_some_iff.mp hs).1
    rw [List.getElem?_set_self hl] at h
    cases h
    obtain ⟨v, hv, rv⟩ := S.ats i _ hs
    exact ⟨v, hv, by rw [rv.refOf]; exact r⟩
  · rw [List.getElem?_set_ne q] at h
    exact S.ats j e h
/-- a list and the block of its rows, at slot i -/
theorem w_frzB {ts : TS} {P : Post} {ps : List Addr} {rows : List (List Dt)} (i : Nat) (hs : s[i]? = some (some (.ref p))) (hp : p ∉ B.T) (hq : ∀ q ∈ ps, q ∉ B.T) (k : WPs K B ts P (s.set i (some (.lst (rows.map Dt.lst)))) M) : WPs K B ts P s (.one p (.lst (refs ps)) :: .many ps rows :: M) := fun D G H σ ok L S => by
  obtain ⟨G1, L1, e1, r1⟩ := frz_block (L.perm (List.Perm.swap _ _ _)) hq
  obtain ⟨vs, hv, tv⟩ := L1.ats _ List.mem_cons_self
  have ev := refs_vals tv
  subst ev
  have f : G1 p = none := L1.free p (by rw [fpM_cons]; exact List.mem_cons_self)
  have e2 := Ex.new (o := HO.lst (ps.map V.ref)) f
  exact k D _ H σ (ok.mono (e1.trans e2)) (L1.freeze hp hv) ((S.mono (e1.trans e2)).to hs (.lst upd_same (r1.mono e2)))
theorem w_frzL {ts : TS} {P : Post} {ds : List Dt} (i : Nat) (hs : s[i]? = some (some (.ref p))) (hp : p ∉ B.T) (k : WPs K B ts P (s.set i (some (.lst ds))) M) : WPs K B ts P s (.one p (.lst ds) :: M) := fun D G H σ ok L S => by
  obtain ⟨G1, L1, e1, r1⟩ := freeze_lst hp L
  exact k D _ H σ (ok.mono e1) L1 ((S.mono e1).to hs r1)
end
end Ask
/-! Dicts: whose keys are tuples of whole numbers, whole numbers. -/
namespace Ask
open PySem PySem.Spec PyProof.Rows L2

/-! ### {(a, b): v} -/
def tDisp1T (tk tv : TE) : TE := fun σ H Q => ∀ p, H p = none → tPairs [(tk, tv)] σ (L2.upd H p (.dT [])) fun ps H2 => H2 p = some (.dT []) ∧ ∃ (kk : List L2.Key) (b : Addr) (z : V), ps = [(.ref b, z)] ∧ H2 b = some (.tup (kk.map kV)) ∧ Q (.ref p) (L2.upd H2 p (.dT [(kk, z)]))
theorem pe_disp1T {X : Cx} {pos : Pos} {k v : Expr} {tk tv : TE} (hu : X.A.units + 1 < cLine) (hk : PE X k tk) (hv : PE X v tv) : PE X (.Dict [some k] [v] pos) (tDisp1T tk tv) := by
  refine ⟨fun pins s σ H Q I q => ?_⟩
  have hn := I.hok.fresh (Nat.le_refl s.heap.objs.size)
  have I1 := I.laid (a := s.heap.objs.size) (o := .dT []) (h' := s.heap.push { cls := .type "dict", data := .dict #[] }) (t' := s.toks) (fun _ _ q => Heap.get?_push_of_some _ q) (Nat.le_refl _) (dt_empty s.heap I.big)
  refine wpAny_Dict_any rfl rfl (by simp) (by simp) (thn ((pps_cons hk hv (pps_nil (pos := pos))).run pins _ σ _ _ I1 (q _ hn)) fun ws s2 hh => ?_)
  · obtain ⟨ps, H2, I2, rel, e, kk, b, z, rfl, eb, qq⟩ := hh
    cases rel with
    | @cons a c as cs h t =>
      cases t
      obtain ⟨h1, h2⟩ := h
      obtain ⟨u, r⟩ := c
      cases (show u = Value.ref b from h1)
      obtain ⟨zz, hd, xs, rel, dd⟩ := dt_of I2.hok e
      cases rel
      unfold storeAll
      rw [List.forIn_cons]
      refine wpAny_bind (wpAny_bind (wpAny_dictSet_heap (show X.A.units < cLine by omega) (key_of I2.hok eb) dd fun h' dd' hs => wpAny_pure ?_))
      show wpAny _ _ (forIn ([] : List (Value × Value)) PUnit.unit _) _ _ _
      rw [List.forIn_nil]
      refine wpAny_pure ?_
      obtain ⟨q', es, ep, hq, g2, g3, g4, _, g5⟩ := dd'
      refine ⟨.ref s.heap.objs.size, _, ?_, rfl, qq⟩
      have hz : ([(kk, z)] : List (List L2.Key × V)).length ≤ sizeLine := by rw [sizeLine_eq]; show 1 ≤ _; decide
      have rr : KT H2 [(kk, z)] [(kk, b, r)] := .cons ⟨rfl, eb, h2⟩ .nil
      exact d_write I2 (by rw [e]; exact True.intro) hs ⟨q', hq⟩ ⟨hz, hd, _, rr.keeps fun c ys ec => by rw [upd_ne (ne_of ec e (fun z => nomatch z))]; exact ec, q', es, ep, hq, g2, g3, g4, g5⟩

/-! ### dicts as plain data: entries are (list of whole numbers, thing), (whole number, thing) -/
section
variable {α : Type} {f : α → Dt}
abbrev kT (l : List Int) : List L2.Key := l.map Sum.inl
abbrev kI (i : Int) : L2.Key := Sum.inl i
def entT (f : α → Dt) (m : List (List Int × α)) : List (List L2.Key × Dt) := m.map fun e => (kT e.1, f e.2)
def entI (f : α → Dt) (m : List (Int × α)) : List (L2.Key × Dt) := m.map fun e => (kI e.1, f e.2)
/-- what stands under a key; one more | another thing -/
def lk {κ : Type} [DecidableEq κ] (m : List (κ × α)) (k : κ) : Option α := getK m k
def ins {κ : Type} [DecidableEq κ] (m : List (κ × α)) (k : κ) (a : α) : List (κ × α) := putKD m k a
theorem kT_inj {a b : List Int} : kT a = kT b ↔ a = b := ⟨fun h => by
  have := congrArg (List.map fun k : L2.Key => match k with | .inl i => i | .inr _ => 0) h
  simpa [List.map_map, Function.comp_def] using this, fun h => h ▸ rfl⟩
theorem getK_entT {m : List (List Int × α)} {k : List Int} : getK (entT f m) (kT k) = (lk m k).map f := by
  induction m with
  | nil => rfl
  | cons e m ih =>
    unfold lk getK entT at *
    rw [List.map_cons, List.find?_cons, List.find?_cons]
    by_cases h : e.1 = k
    · simp [h]
    · have h' : ¬ kT e.1 = kT k := fun z => h (kT_inj.mp z)
      simp only [h, h', decide_false]; exact ih
theorem getK_entI {m : List (Int × α)} {k : Int} : getK (entI f m) (kI k) = (lk m k).map f := by
  induction m with
  | nil => rfl
  | cons e m ih =>
    unfold lk getK entI at *
    rw [List.map_cons, List.find?_cons, List.find?_cons]
    by_cases h : e.1 = k
    · simp [h]
    · have h' : ¬ kI e.1 = kI k := fun z => h (Sum.inl.inj z)
      simp only [h, h', decide_false]; exact ih
theorem putK_entT {m : List (List Int × α)} {k : List Int} {a : α} : putKD (entT f m) (kT k) (f a) = entT f (ins m k a) := by
  have hg := getK_entT (f := f) (m := m) (k := k)
  unfold ins putKD
  rw [hg, Option.isSome_map]
  unfold lk
  split
  · unfold entT
    rw [List.map_map, List.map_map]
    refine List.map_congr_left fun e _ => ?_
    by_cases h : e.1 = k
    · simp [h]
    · have h' : ¬ kT e.1 = kT k := fun z => h (kT_inj.mp z)
      simp [h, h']
  · simp [entT]
theorem putK_entI {m : List (Int × α)} {k : Int} {a : α} : putKD (entI f m) (kI k) (f a) = entI f (ins m k a) := by
  have hg := getK_entI (f := f) (m := m) (k := k)
  unfold ins putKD
  rw [hg, Option.isSome_map]
  unfold lk
  split
  · unfold entI
    rw [List.map_map, List.map_map]
    refine List.map_congr_left fun e _ => ?_
    by_cases h : e.1 = k
    · simp [h]
    · have h' : ¬ kI e.1 = kI k := fun z => h (Sum.inl.inj z)
      simp [h, h']
  · simp [entI]
end
/-- a tuple of whole numbers -/
class IntsC (ds : List Dt) (l : outParam (List Int)) : Prop where h : ds = l.map Dt.int
instance ints_map {l : List Int} : IntsC (l.map Dt.int) l := ⟨rfl⟩
instance ints_nil : IntsC [] [] := ⟨rfl⟩
instance ints_cons {i : Int} {ds : List Dt} {l : List Int} [h : IntsC ds l] : IntsC (.int i :: ds) (i :: l) := ⟨by rw [h.h]; rfl⟩
def DGetD (M : Ms) (x y : Dt) (Ψ : Option Dt → Prop) : Prop := ∃ a, x = .ref a ∧ ((∃ kvs l ds, Ent.one a (.dT kvs) ∈ M ∧ y = .tup ds ∧ ds = l.map Dt.int ∧ Ψ (getK kvs (kT l))) ∨ ∃ kvs i, Ent.one a (.dK kvs) ∈ M ∧ y = .int i ∧ Ψ (getK kvs (kI i)))
def DPutD (M : Ms) (x y v : Dt) (Ψ : Ms → Prop) : Prop := ∃ a M', x = .ref a ∧ ((∃ kvs l ds, Upd M a (.dT kvs) (.dT (putKD kvs (kT l) v)) M' ∧ kvs.length < 16777216 ∧ y = .tup ds ∧ ds = l.map Dt.int) ∨ ∃ kvs i, Upd M a (.dK kvs) (.dK (putKD kvs (kI i) v)) M' ∧ kvs.length < 16777216 ∧ y = .int i) ∧ Ψ M'
section
variable {K : PySem.W.Frag} {B : Fr} {s : Sl} {M M' : Ms} {Φ : Dt → Ms → Prop} {td ty tv te : TE} {G H : Hp}
theorem tup_keys {l : List Int} : l.map V.int = (kT l).map kV := by rw [List.map_map]; rfl
/-- what the rule of the reading wants -/
theorem dget_of {x y : Dt} {v w : V} {Ψ : Option Dt → Prop} (L : Lay K B G M H) (h : DGetD M x y Ψ) (rx : Rep K G v x) (ry : Rep K G w y) : ∃ a o od, v = .ref a ∧ DGet H a w o ∧ Ψ od ∧ (∀ d, od = some d → ∃ u, o = some u ∧ Rep K G u d) ∧ (od = none → o = none) := by
  obtain ⟨a, rfl, ⟨kvs, l, ds, hm, rfl, rfl, hp⟩ | ⟨kvs, i, hm, rfl, hp⟩⟩ := h
  · obtain ⟨ws, e, r⟩ := L.ats _ hm
    obtain ⟨b, us, rfl, eb, tb⟩ := ry.tupOf
    have eu := tb.ints
    subst eu
    refine ⟨a, _, _, rx.refOf, DGet.t (k := kT l) e (by rw [← tup_keys]; exact L.sub _ _ eb), hp, fun d hd => r.some hd, fun hd => r.none hd⟩
  · obtain ⟨ws, e, r⟩ := L.ats _ hm
    rw [ry.intOf]
    exact ⟨a, _, _, rx.refOf, DGet.k (k := kI i) e, hp, fun d hd => r.some hd, fun hd => r.none hd⟩
theorem e_dget (h : EvW K B td s M fun x M1 => EvW K B ty s M1 fun y M2 => DGetD M2 x y fun o => ∃ d, o = some d ∧ Φ d M2) : EvW K B (tDGet td ty) s M Φ := fun G H σ Q L S q =>
  h G H σ _ L S fun v x M1 G1 H1 L1 e1 r1 h1 => h1 G1 H1 σ _ L1 (S.mono e1) fun w y M2 G2 H2 L2 e2 r2 h2 => by
    obtain ⟨a, o, od, rfl, g, ⟨d, hd, k⟩, hs, _⟩ := dget_of L2 h2 (r1.mono e2) r2
    obtain ⟨u, rfl, ru⟩ := hs d hd
    exact ⟨a, u, rfl, g, q u d M2 G2 H2 L2 (e1.trans e2) ru k⟩
theorem e_dget1 (h : EvW K B td s M fun x M1 => (∃ a c, x = .ref a ∧ Ent.one a c ∈ M1 ∧ ((∃ kvs, c = .dT kvs) ∨ ∃ kvs, c = .dK kvs)) ∧ EvW K B ty s M1 fun y M2 => DGetD M2 x y fun o => Φ (o.getD .non) M2) : EvW K B (tDGet1 td ty) s M Φ := fun G H σ Q L S q =>
  h G H σ _ L S fun v x M1 G1 H1 L1 e1 r1 ⟨⟨a0, c, hx, hm, hc⟩, h1⟩ => by
    subst hx
    refine ⟨a0, r1.refOf, ?_, h1 G1 H1 σ _ L1 (S.mono e1) fun w y M2 G2 H2 L2 e2 r2 h2 => ?_⟩
    · rcases hc with ⟨kvs, rfl⟩ | ⟨kvs, rfl⟩
      · obtain ⟨ws, e, _⟩ := L1.ats _ hm; exact .inr ⟨ws, .inl e⟩
      · obtain ⟨ws, e, _⟩ := L1.ats _ hm; exact .inl ⟨ws, .inl e⟩
    · obtain ⟨a, o, od, ea, g, k, hs, hn⟩ := dget_of L2 h2 (r1.mono e2) r2
      rw [r1.refOf] at ea
      cases ea
      refine ⟨o, g, ?_⟩
      cases hod : od with
      | none => rw [hn hod]; rw [hod] at k; exact q _ _ M2 G2 H2 L2 (e1.trans e2) .non k
      | some d =>
        obtain ⟨u, rfl, ru⟩ := hs d hod
        rw [hod] at k
        exact q u d M2 G2 H2 L2 (e1.trans e2) ru k
theorem e_din (h : EvW K B ty s M fun y M1 => EvW K B td s M1 fun x M2 => DGetD M2 x y fun o => Φ (.bl o.isSome) M2) : EvW K B (tDIn ty td) s M Φ := fun G H σ Q L S q =>
  h G H σ _ L S fun w y M1 G1 H1 L1 e1 r1 h1 => h1 G1 H1 σ _ L1 (S.mono e1) fun v x M2 G2 H2 L2 e2 r2 h2 => by
    obtain ⟨a, o, od, rfl, g, k, hs, hn⟩ := dget_of L2 h2 r2 (r1.mono e2)
    have e : o.isSome = od.isSome := by
      cases hod : od with
      | none => rw [hn hod]; rfl
      | some d => obtain ⟨u, rfl, _⟩ := hs d hod; rfl
    exact ⟨a, o, rfl, g, q _ _ M2 G2 H2 L2 (e1.trans e2) (by rw [e]; exact .bl _) k⟩
theorem e_dnotin (h : EvW K B ty s M fun y M1 => EvW K B td s M1 fun x M2 => DGetD M2 x y fun o => Φ (.bl (!o.isSome)) M2) : EvW K B (tDNotIn ty td) s M Φ := fun G H σ Q L S q =>
  h G H σ _ L S fun w y M1 G1 H1 L1 e1 r1 h1 => h1 G1 H1 σ _ L1 (S.mono e1) fun v x M2 G2 H2 L2 e2 r2 h2 => by
    obtain ⟨a, o, od, rfl, g, k, hs, hn⟩ := dget_of L2 h2 r2 (r1.mono e2)
    have e : o.isSome = od.isSome := by
      cases hod : od with
      | none => rw [hn hod]; rfl
      | some d => obtain ⟨u, rfl, _⟩ := hs d hod; rfl
    exact ⟨a, o, rfl, g, q _ _ M2 G2 H2 L2 (e1.trans e2) (by rw [e]; exact .bl _) k⟩
theorem RepKV.lenD {κ : Type} {x : List (κ × V)} {y : List (κ × Dt)} (r : RepKV K G x y) : x.length = y.length := r.len
theorem w_dput {P : Post} (h : EvW K B tv s M fun v M1 => EvW K B td s M1 fun x M2 => EvW K B ty s M2 fun y M3 => DPutD M3 x y v fun M4 => P.nx s M4) : WPs K B (sDPut td ty tv) P s M := fun D G H σ ok L S =>
  h G H σ _ L S fun v dv M1 G1 H1 L1 e1 r1 h1 => h1 G1 H1 σ _ L1 (S.mono e1) fun x dx M2 G2 H2 L2 e2 r2 h2 => h2 G2 H2 σ _ L2 (S.mono (e1.trans e2)) fun y dy M3 G3 H3 L3 e3 r3 h3 => by
    obtain ⟨a, M4, rfl, h3, k⟩ := h3
    have rv := (r1.mono e2).mono e3
    have ex := (e1.trans e2).trans e3
    rcases h3 with ⟨kvs, l, ds, u, hl, rfl, rfl⟩ | ⟨kvs, i, u, hl, rfl⟩
    · obtain ⟨Mr, p1, p2⟩ := u.perm
      obtain ⟨ws, e, r⟩ := (L3.perm p1).ats _ List.mem_cons_self
      obtain ⟨b, us, rfl, eb, tb⟩ := r3.tupOf
      have eu := tb.ints
      subst eu
      exact ⟨a, _, (r2.mono e3).refOf, DPut.t (k := kT l) e (by rw [← tup_keys]; exact L3.sub _ _ eb) (sl_lt (by rw [r.len]; exact hl)), ok.1 s M4 G3 _ σ k (L3.upd u ⟨_, upd_same, r.put rv⟩) ex (S.mono ex)⟩
    · obtain ⟨Mr, p1, p2⟩ := u.perm
      obtain ⟨ws, e, r⟩ := (L3.perm p1).ats _ List.mem_cons_self
      rw [r3.intOf]
      exact ⟨a, _, (r2.mono e3).refOf, DPut.k (k := kI i) e (sl_lt (by rw [r.len]; exact hl)), ok.1 s M4 G3 _ σ k (L3.upd u ⟨_, upd_same, r.put rv⟩) ex (S.mono ex)⟩
instance s_dget : Stp (EvW K B (tDGet td ty) s M Φ) (EvW K B td s M fun x M1 => EvW K B ty s M1 fun y M2 => DGetD M2 x y fun o => ∃ d, o = some d ∧ Φ d M2) := ⟨e_dget⟩
instance s_din : Stp (EvW K B (tDIn ty td) s M Φ) (EvW K B ty s M fun y M1 => EvW K B td s M1 fun x M2 => DGetD M2 x y fun o => Φ (.bl o.isSome) M2) := ⟨e_din⟩
instance s_dnotin : Stp (EvW K B (tDNotIn ty td) s M Φ) (EvW K B ty s M fun y M1 => EvW K B td s M1 fun x M2 => DGetD M2 x y fun o => Φ (.bl (!o.isSome)) M2) := ⟨e_dnotin⟩
instance s_dput {nx bk ct : Sl → Ms → Prop} {rt : Dt → Ms → Prop} : Stp (WPs K B (sDPut td ty tv) ⟨nx, rt, bk, ct⟩ s M) (EvW K B tv s M fun v M1 => EvW K B td s M1 fun x M2 => EvW K B ty s M2 fun y M3 => DPutD M3 x y v fun M4 => nx s M4) := ⟨w_dput (P := ⟨nx, rt, bk, ct⟩)⟩
/-- is a dict -/
def IsDD (M : Ms) (x : Dt) : Prop := ∃ a c, x = .ref a ∧ Ent.one a c ∈ M ∧ ((∃ kvs, c = .dT kvs) ∨ ∃ kvs, c = .dK kvs)
instance s_dget1 : Stp (EvW K B (tDGet1 td ty) s M Φ) (EvW K B td s M fun x M1 => IsDD M1 x ∧ EvW K B ty s M1 fun y M2 => DGetD M2 x y fun o => Φ (o.getD .non) M2) := ⟨e_dget1⟩
section
variable {α : Type} {f : α → Dt} {a : Addr} {ds : List Dt} {l : List Int} {m : List (List Int × α)} {mi : List (Int × α)} {i : Int} {Ψ : Option Dt → Prop} {Θ : Ms → Prop} {Q : Prop} {v : α}
instance s_isddT {kvs : List (List L2.Key × Dt)} [h : FindC M a (.dT kvs)] : Stp (IsDD M (.ref a) ∧ Q) Q := ⟨fun q => ⟨⟨a, _, rfl, h.h, .inl ⟨_, rfl⟩⟩, q⟩⟩
instance s_dgetT [h : FindC M a (.dT (entT f m))] [k : IntsC ds l] : Stp (DGetD M (.ref a) (.tup ds) Ψ) (Ψ ((lk m l).map f)) := ⟨fun q => ⟨a, rfl, .inl ⟨_, l, ds, h.h, rfl, k.h, by rw [getK_entT]; exact q⟩⟩⟩
instance s_dgetI [h : FindC M a (.dK (entI f mi))] : Stp (DGetD M (.ref a) (.int i) Ψ) (Ψ ((lk mi i).map f)) := ⟨fun q => ⟨a, rfl, .inr ⟨_, i, h.h, rfl, by rw [getK_entI]; exact q⟩⟩⟩
theorem entT_len : (entT f m).length = m.length := by simp [entT]
theorem entI_len : (entI f mi).length = mi.length := by simp [entI]
/-- which thing is put, written plainly -/
class EncV (f : α → Dt) (d : Dt) (v : outParam α) : Prop where h : d = f v
instance encV_app {v : α} : EncV f (f v) v := ⟨rfl⟩
instance s_dputT {d : Dt} {M' : Ms} [h : FindC M a (.dT (entT f m))] [k : IntsC ds l] [e : EncV f d v] [u : PutC M a (.dT (entT f m)) (.dT (entT f (ins m l v))) M'] : Stp (DPutD M (.ref a) (.tup ds) d Θ) (Pre (m.length < 16777216) (Θ M')) := ⟨fun q => ⟨a, M', rfl, .inl ⟨entT f m, l, ds, by rw [e.h, putK_entT]; exact u.h, by rw [entT_len]; exact q.1, rfl, k.h⟩, q.2⟩⟩
instance s_dputI {d : Dt} {M' : Ms} [h : FindC M a (.dK (entI f mi))] [e : EncV f d v] [u : PutC M a (.dK (entI f mi)) (.dK (entI f (ins mi i v))) M'] : Stp (DPutD M (.ref a) (.int i) d Θ) (Pre (mi.length < 16777216) (Θ M')) := ⟨fun q => ⟨a, M', rfl, .inr ⟨entI f mi, i, by rw [e.h, putK_entI]; exact u.h, by rw [entI_len]; exact q.1, rfl⟩, q.2⟩⟩
end
/-- a new dict with one entry; the key's own tuple first -/
theorem e_disp1T {tk : TE} (h : ∀ p, p ∉ B.T → EvW K B tk s (.one p (.dT []) :: M) fun y M1 => EvW K B tv s M1 fun z M2 => ∃ l ds, y = .tup ds ∧ ds = l.map Dt.int ∧ M2 = .one p (.dT []) :: M ∧ Φ (.ref p) (.one p (.dT [(kT l, z)]) :: M)) : EvW K B (tDisp1T tk tv) s M Φ := fun G H σ Q L S q p hp => by
  have hT : p ∉ B.T := fun z => L.freshM hp (L.tin p z)
  refine h p hT G _ σ _ (L.laidM (c := .dT []) hp ⟨[], upd_same, .nil⟩) S fun y dy M1 G1 H1 L1 e1 r1 h1 => h1 G1 H1 σ _ L1 (S.mono e1) fun z dz M2 G2 H2 L2 e2 r2 h2 => ?_
  obtain ⟨l, ds, rfl, rfl, rfl, k⟩ := h2
  obtain ⟨ws, e, r⟩ := L2.ats _ List.mem_cons_self
  cases r
  obtain ⟨b, us, rfl, eb, tb⟩ := (r1.mono e2).tupOf
  have eu := tb.ints
  subst eu
  exact ⟨e, kT l, b, z, rfl, by rw [← tup_keys]; exact L2.sub _ _ eb, q _ _ _ G2 _ (L2.change (c' := .dT [(kT l, dz)]) ⟨_, upd_same, .cons r2 .nil⟩) (e1.trans e2) (.ref p) k⟩
/-- {i: v} -/
theorem e_dispK {tk : TE} (h : ∀ p, p ∉ B.T → EvW K B tk s (.one p (.dK []) :: M) fun y M1 => EvW K B tv s M1 fun z M2 => ∃ i, y = .int i ∧ M2 = .one p (.dK []) :: M ∧ Φ (.ref p) (.one p (.dK [(kI i, z)]) :: M)) : EvW K B (tDisp [(tk, tv)]) s M Φ := fun G H σ Q L S q p hp => by
  have hT : p ∉ B.T := fun z => L.freshM hp (L.tin p z)
  refine h p hT G _ σ _ (L.laidM (c := .dK []) hp ⟨[], upd_same, .nil⟩) S fun y dy M1 G1 H1 L1 e1 r1 h1 => h1 G1 H1 σ _ L1 (S.mono e1) fun z dz M2 G2 H2 L2 e2 r2 h2 => ?_
  obtain ⟨i, rfl, rfl, k⟩ := h2
  obtain ⟨ws, e, r⟩ := L2.ats _ List.mem_cons_self
  cases r
  refine ⟨e, [(kI i, z)], ?_, by show 1 ≤ 15; decide, q _ _ _ G2 _ (L2.change (c' := .dK [(kI i, dz)]) ⟨_, upd_same, .cons r2 .nil⟩) (e1.trans e2) (.ref p) k⟩
  rw [r1.intOf]; rfl
def rLenK : List V → Hp → VK → Prop := fun xs H Q => ∃ a kvs, xs = [V.ref a] ∧ H a = some (.dK kvs) ∧ Q (.int kvs.length) H
theorem ck_lenD {X : Cx} : CallR X (.builtin "len") rLenK := call_lenD
instance s_lenK {α : Type} {f : α → Dt} {a : Addr} {m : List (Int × α)} [h : FindC M a (.dK (entI f m))] : Stp (OpN K B rLenK [.ref a] M Φ) (Φ (.int (m.length : Nat)) M) := ⟨fun k G H vs Q L rs q => by
  cases rs with | cons r1 r0 =>
    cases r0
    obtain ⟨ws, e, r⟩ := L.ats _ h.h
    exact ⟨a, ws, by rw [r1.refOf], e, by rw [r.len, entI_len]; exact q _ _ M G H L (Ex.refl G) (.int _) k⟩⟩
end
end Ask
/-! A new list or None comes back; lists of lists that are owned. -/
namespace Ask
open PySem L2
instance s_br_bne {a b : Bool} {A B : Prop} : Stp (Br ((a != b) = true) A B) (Br (a ≠ b) A B) := ⟨fun k => ⟨fun h => k.1 (by simpa using h), fun h => k.2 (by simpa using h)⟩⟩
instance s_br_beq {a b : Bool} {A B : Prop} : Stp (Br ((a == b) = true) A B) (Br (a = b) A B) := ⟨fun k => ⟨fun h => k.1 (by simpa using h), fun h => k.2 (by simpa using h)⟩⟩
section
variable {K : PySem.W.Frag} {B : Fr} {M : Ms} {G H : Hp}
/-- one list out of what is owned -/
theorem Lay.oneOf {p : Addr} {es : List Dt} (L : Lay K B G M H) (h : LstD M es (.ref p)) (hT : B.T = []) : Lay K B G [.one p (.lst es)] H := by
  cases h with
  | one h => exact L.just h hT
  | @row a ps rows i h ha hr =>
    have L1 := L.just h hT
    obtain ⟨a1, b1, rfl⟩ : ∃ a1 b1, ps = a1 ++ p :: b1 := List.append_of_mem (List.mem_of_getElem? ha)
    have hp : p ∈ fpM [Ent.many (a1 ++ p :: b1) rows] := by simp [fpM, Ent.fp]
    refine ⟨L1.sub, by simp [fpM, Ent.fp], fun a ha => ?_, fun e he => ?_, L1.keep, L1.gfix, fun a ha => ?_, fun a ha => by rw [hT] at ha; cases ha⟩
    · have : a = p := by simpa [fpM, Ent.fp] using ha
      rw [this]; exact L1.free p hp
    · have : e = .one p (.lst es) := by simpa using he
      rw [this]
      exact (L1.ats (.many (a1 ++ p :: b1) rows) (by simp)).2 i p es ha hr
    · have : a = p := by simpa [fpM, Ent.fp] using ha
      rw [this]; exact L1.new p hp
end
instance s_ix2 {a b c : Dt} {ds : List Dt} {Ψ : Dt → Prop} : Stp (Ix (a :: b :: c :: ds) 2 Ψ) (Ψ c) := ⟨fun k => ⟨c, at_nat (by decide) rfl, k⟩⟩
instance s_ix3 {a b c d : Dt} {ds : List Dt} {Ψ : Dt → Prop} : Stp (Ix (a :: b :: c :: d :: ds) 3 Ψ) (Ψ d) := ⟨fun k => ⟨d, at_nat (by decide) rfl, k⟩⟩
/-- None or a new list comes back | raises -/
def fnXO (R : List Dt → Except Addr (Option (List Dt)) → Prop) : FT := fun ds M Φ Ξ => M = [] ∧ ∃ r, R ds r ∧ (r = .ok none → Φ .non []) ∧ (∀ es, r = .ok (some es) → ∀ p, Φ (.ref p) [.one p (.lst es)]) ∧ ∀ C, r = .error C → Ξ C []
/-- what follows of it -/
def ResO (r : Except Addr (Option (List Dt))) (N : Prop) (A : List Dt → Prop) (E : Addr → Prop) : Prop := (r = .ok none → N) ∧ (∀ es, r = .ok (some es) → A es) ∧ ∀ C, r = .error C → E C
section
variable {r a b : Except Addr (Option (List Dt))} {N : Prop} {A : List Dt → Prop} {E : Addr → Prop} {es : List Dt} {C : Addr} {p : Prop}
instance s_reso_n : Stp (ResO (.ok none) N A E) N := ⟨fun k => ⟨fun _ => k, (fun _ e => by cases e), (fun _ e => by cases e)⟩⟩
instance s_reso_s : Stp (ResO (.ok (some es)) N A E) (A es) := ⟨fun k => ⟨(fun e => by cases e), (fun _ e => by cases e; exact k), (fun _ e => by cases e)⟩⟩
instance s_reso_e : Stp (ResO (.error C) N A E) (E C) := ⟨fun k => ⟨(fun e => by cases e), (fun _ e => by cases e), (fun _ e => by cases e; exact k)⟩⟩
instance s_reso_if [q : Decidable p] : Stp (ResO (if p then a else b) N A E) (Br p (ResO a N A E) (ResO b N A E)) := ⟨fun k => by
  by_cases h : p
  · rw [if_pos h]; exact k.1 h
  · rw [if_neg h]; exact k.2 h⟩
theorem resO_mono {A' : List Dt → Prop} (h : ResO r N A E) (k : ∀ es, A es → A' es) : ResO r N A' E := ⟨h.1, fun es e => k es (h.2.1 es e), h.2.2⟩
end
section
variable {K : PySem.W.Frag} {B : Fr} {s : Sl} {M : Ms} {Φ : Dt → Ms → Prop} {te : TE} {t : TA} {n : Nat} {ds : List Dt} {W : WX} {Ξ : Addr → Sl → Ms → Prop} {C : Addr} {m : Str} {R : List Dt → Except Addr (Option (List Dt)) → Prop}
abbrev FzO (B : Fr) (Φ : Dt → Ms → Prop) (M : Ms) (es : List Dt) : Prop := ∀ p, p ∉ B.T → (Fz B Φ (.ref p) (.one p (.lst es) :: M) ∨ Φ (.ref p) (.one p (.lst es) :: M))
theorem call_coreXO [z : XOkC K B W Ξ] {M1 : Ms} (hn : ds.length = n) {r : Except Addr (Option (List Dt))} (hr : R ds r) (k : ResO r (Φ .non M1) (FzO B Φ M1) fun C => Ξ C s M1) {G H : Hp} {σ : L2.St} {vs : List V} {Q : VK}
    (L : Lay K B G M1 H) (S : Slots K G σ s) (rp : RepAll K G vs ds) (q : ∀ v d M' G' H', Lay K B G' M' H' → Ex G G' → Rep K G' v d → Φ d M' → Q v H') : spG K n (fnXO R) vs H Q (fun cls d H => W cls d σ H) := by
  refine ⟨rp.len.trans hn, G, [], ds, fun d M' => (d = .non ∧ M' = [] ∧ r = .ok none) ∨ ∃ p es, d = .ref p ∧ M' = [.one p (.lst es)] ∧ r = .ok (some es), fun C M' => r = .error C ∧ M' = [], (show Lay K B G ([] ++ M1) H from L).enter, rp, ⟨rfl, r, hr, fun e => .inl ⟨rfl, rfl, e⟩, fun es e p => .inr ⟨p, es, rfl, rfl, e⟩, fun C e => ⟨e, rfl⟩⟩, fun v d M' G' H' L' r' kk => ?_, fun C M' G' H' L' kk => ?_⟩
  · rcases kk with ⟨rfl, rfl, e⟩ | ⟨p, es, rfl, rfl, e⟩
    · exact q _ _ _ _ _ (Lay.back (Ma := []) L L') (L'.grown L.sub) r' (k.1 e)
    · have Lb : Lay K B G' ([.one p (.lst es)] ++ M1) H' := Lay.back (Ma := []) L L'
      have hp : H p = none := (L'.new p (by simp [fpM, Ent.fp])).resolve_left (by simp [fpM])
      have hT : p ∉ B.T := fun z => L.freshM hp (L.tin p z)
      rw [r'.refOf]
      exact lc_end hT ⟨G', Lb, L'.grown L.sub⟩ (k.2.1 es e p hT) q
  · obtain ⟨e, rfl⟩ := kk
    exact z.h C s M1 G' H' σ (Lay.back (Ma := []) L L') (S.mono (L'.grown L.sub)) (k.2.2 C e)
theorem e_callXO [z : XOkC K B W Ξ] (h : EvA K B t s M fun ds M1 => CallV R n ds fun r => ResO r (Φ .non M1) (FzO B Φ M1) fun C => Ξ C s M1) : EvW K B (tCallS (spG K n (fnXO R)) (WE W) t) s M Φ := fun G H σ Q L S q =>
  h G H σ _ L S fun vs ds M' G' H' L' e rp ⟨hn, r, hr, k⟩ => call_coreXO hn hr k L' (S.mono e) rp fun v d M2 G2 H2 L2 e2 => q v d M2 G2 H2 L2 (e.trans e2)
theorem e_methXO [z : XOkC K B W Ξ] (h : EvW K B te s M fun o M1 => IsIns M1 C m o (EvA K B t s M1 fun as M2 => CallV R n (o :: as) fun r => ResO r (Φ .non M2) (FzO B Φ M2) fun C => Ξ C s M2)) : EvW K B (tMethS C m (spG K n (fnXO R)) (WE W) te t) s M Φ := fun G H σ Q L S q =>
  h G H σ _ L S fun v o M' G' H' L' e r h' => by
    obtain ⟨fs, ds, i, hm, h'⟩ := h'
    obtain ⟨a, dx, vs, rfl, ea, l, _⟩ := i.at L' r
    refine ⟨a, dx, _, rfl, ea, lookF_none hm, h' G' H' σ _ L' (S.mono e) fun vs as M2 G2 H2 L2 e2 rs ⟨hn, d, hr, k⟩ => ?_⟩
    exact call_coreXO hn hr k L2 (S.mono (e.trans e2)) (.cons (r.mono e2) rs) fun v d M3 G3 H3 L3 e3 => q v d M3 G3 H3 L3 ((e.trans e2).trans e3)
instance s_callXO [z : XOkC K B W Ξ] : Stp (EvW K B (tCallS (spG K n (fnXO R)) (WE W) t) s M Φ) (EvA K B t s M fun ds M1 => CallV R n ds fun r => ResO r (Φ .non M1) (fun es => Φ (.lst es) M1) fun C => Ξ C s M1) := ⟨fun h => e_callXO (a_mono h fun ds M1 c => callV_mono c fun r k => resO_mono k fun es k => fz k)⟩
instance s_callXOO [z : XOkC K B W Ξ] : Stp (EvW K B (tOwn (tCallS (spG K n (fnXO R)) (WE W) t)) s M Φ) (EvA K B t s M fun ds M1 => CallV R n ds fun r => ResO r (Φ .non M1) (fun es => Own B Φ (.lst es) M1) fun C => Ξ C s M1) := ⟨fun h => e_callXO (a_mono h fun ds M1 c => callV_mono c fun r k => resO_mono k fun es k => fzM k)⟩
instance s_methXO [z : XOkC K B W Ξ] : Stp (EvW K B (tMethS C m (spG K n (fnXO R)) (WE W) te t) s M Φ) (EvW K B te s M fun o M1 => IsIns M1 C m o (EvA K B t s M1 fun as M2 => CallV R n (o :: as) fun r => ResO r (Φ .non M2) (fun es => Φ (.lst es) M2) fun C => Ξ C s M2)) := ⟨fun h => e_methXO (e_mono h fun o M1 i => isIns_mono i fun a => a_mono a fun as M2 c => callV_mono c fun r k => resO_mono k fun es k => fz k)⟩
instance s_methXOO [z : XOkC K B W Ξ] : Stp (EvW K B (tOwn (tMethS C m (spG K n (fnXO R)) (WE W) te t)) s M Φ) (EvW K B te s M fun o M1 => IsIns M1 C m o (EvA K B t s M1 fun as M2 => CallV R n (o :: as) fun r => ResO r (Φ .non M2) (fun es => Own B Φ (.lst es) M2) fun C => Ξ C s M2)) := ⟨fun h => e_methXO (e_mono h fun o M1 i => isIns_mono i fun a => a_mono a fun as M2 c => callV_mono c fun r k => resO_mono k fun es k => fzM k)⟩
def RetO (M : Ms) (d : Dt) (r : Except Addr (Option (List Dt))) : Prop := (d = .non ∧ r = .ok none) ∨ ∃ p es, d = .ref p ∧ LstD M es (.ref p) ∧ r = .ok (some es)
instance s_reto_n {r : Except Addr (Option (List Dt))} : Stp (RetO M .non r) (r = .ok none) := ⟨fun e => .inl ⟨rfl, e⟩⟩
instance s_reto_s {p : Addr} {r : Except Addr (Option (List Dt))} [q : LstC M (.ref p) ds] : Stp (RetO M (.ref p) r) (r = .ok (some ds)) := ⟨fun e => .inr ⟨p, ds, rfl, q.h, e⟩⟩
theorem enterXO {vs : List V} {H : Hp} {Q : VK} {E : XK} {ts : TS} {N : List Str} (h : spG K n (fnXO R) vs H Q E)
    (k : ∀ (B : Fr) (ds : List Dt) (r : Except Addr (Option (List Dt))), B.T = [] → R ds r → XOkC K B (WF E) (fun C _ M => r = .error C) → WPs K B ts { nx := fun _ M => r = .ok none, rt := fun d' M => RetO M d' r } (startD N.length ds) []) :
    ts { nx := fun _ H' => Q .non H', rt := Q } (L2.start N vs) H := by
  obtain ⟨hl, G, M, ds, Φ, Ξ, L, r, ⟨rfl, x, hr, k0, k1, k2⟩, kQ, kE⟩ := h
  refine k ⟨G, H, []⟩ ds x rfl hr ⟨fun C s M' G' H' σ L' _ z => kE C _ _ _ (L'.clear rfl) (k2 C z)⟩ _ G H _ ⟨fun s M' G' H' σ z L' _ _ => kQ .non .non _ G' H' (L'.clear rfl) .non (k0 z), fun v d M' G' H' z L' _ r' => ?_, fun _ _ _ _ _ x => x.elim, fun _ _ _ _ _ x => x.elim⟩ L (slots_start r)
  rcases z with ⟨rfl, z⟩ | ⟨p, es, rfl, hm, z⟩
  · exact kQ v _ _ G' H' (L'.clear rfl) r' (k0 z)
  · exact kQ v _ _ G' H' (L'.oneOf hm rfl) r' (k1 _ z p)
/-- [[]] -/
instance s_lstB1 : Stp (EvW K B (tMany (tLst (tCons (tLst tNil) tNil))) s M Φ) (∀ p q, p ∉ B.T → q ∉ B.T → Φ (.ref p) (.one p (.lst (refs [q])) :: .many [q] [[]] :: M)) := ⟨fun k => e_lstM (B := B) (a_cons (e_lstM (a_nil ⟨by decide, fun q hq => a_lay (M' := .many [q] [[]] :: M) (fun G H L => Lay.merge (L.block0.perm (List.Perm.swap _ _ _))) (a_nil ⟨by show 1 < _; decide, fun p hp => k p q hp hq⟩)⟩)))⟩
instance s_disp1T {tk tv : TE} : Stp (EvW K B (tDisp1T tk tv) s M Φ) (∀ p, p ∉ B.T → EvW K B tk s (.one p (.dT []) :: M) fun y M1 => EvW K B tv s M1 fun z M2 => ∃ l ds, y = .tup ds ∧ ds = l.map Dt.int ∧ M2 = .one p (.dT []) :: M ∧ Φ (.ref p) (.one p (.dT [(kT l, z)]) :: M)) := ⟨e_disp1T⟩
instance s_dispK {tk tv : TE} : Stp (EvW K B (tDisp [(tk, tv)]) s M Φ) (∀ p, p ∉ B.T → EvW K B tk s (.one p (.dK []) :: M) fun y M1 => EvW K B tv s M1 fun z M2 => ∃ i, y = .int i ∧ M2 = .one p (.dK []) :: M ∧ Φ (.ref p) (.one p (.dK [(kI i, z)]) :: M)) := ⟨e_dispK⟩
theorem w_wh {c : TT} {tb : TS} {nx bk ct : Sl → Ms → Prop} {rt : Dt → Ms → Prop} (I : Nat → Sl → Ms → Prop) (m0 : Nat) (h0 : I m0 s M)
    (hs : ∀ m s' M', I m s' M' → EvT K B c s' M' fun b M1 => (b = true → WPs K B tb ⟨fun s2 M2 => ∃ m', m' < m ∧ I m' s2 M2, rt, nx, fun s2 M2 => ∃ m', m' < m ∧ I m' s2 M2⟩ s' M1) ∧ (b = false → nx s' M1)) : WPs K B (tWhile c tb) ⟨nx, rt, bk, ct⟩ s M := w_while (P := ⟨nx, rt, bk, ct⟩) I m0 h0 hs
theorem lay_join1 {x : Ent} {p : Addr} {c : Cell} {ps : List Addr} {rows : List (List Dt)} {q : Addr} {r : List Dt} : ∀ G H, Lay K B G (.one q (.lst r) :: x :: .one p c :: .many ps rows :: M) H → Lay K B G (x :: .one p c :: .many (ps ++ [q]) (rows ++ [r]) :: M) H := fun G H L =>
  (lay_join G H (L.perm ((List.perm_middle (l₁ := [_, _])).symm.cons _))).perm (List.perm_middle (l₁ := [_, _]))
end
end Ask
/-! Two rooms walked at once: the search, plainly. -/
namespace Ask
theorem nodup_sub_length {α : Type} [DecidableEq α] : ∀ {l m : List α}, l.Nodup → (∀ a ∈ l, a ∈ m) → l.length ≤ m.length
  | [], m, _, _ => Nat.zero_le _
  | a :: l, m, hn, hs => by
    have ha : a ∈ m := hs a (by simp)
    have hn' := List.nodup_cons.mp hn
    have : l.length ≤ (m.erase a).length := nodup_sub_length hn'.2 fun b hb => by
      have hne : b ≠ a := fun e => hn'.1 (e ▸ hb)
      exact (List.mem_erase_of_ne hne).mpr (hs b (by simp [hb]))
    rw [List.length_erase_of_mem ha] at this
    have := List.length_pos_of_mem ha
    simp only [List.length_cons]; omega
abbrev PE2 := List Int × Int × Int
section
variable (w1 w2 : List (List Int))
def pushP (E : List PE2) (e : PE2) (d : Nat) : List PE2 :=
  if (stepOf w1 e.2.1 d, stepOf w2 e.2.2 d) ∈ E.map (·.2) then E else E ++ [(e.1 ++ [(d : Int)], stepOf w1 e.2.1 d, stepOf w2 e.2.2 d)]
def pushesP (E : List PE2) (e : PE2) (n : Nat) : List PE2 := (List.range n).foldl (fun E d => pushP w1 w2 E e d) E
theorem pushesP_succ {E : List PE2} {e : PE2} {n : Nat} : pushesP w1 w2 E e (n + 1) = pushP w1 w2 (pushesP w1 w2 E e n) e n := by
  unfold pushesP; rw [List.range_succ, List.foldl_append]; rfl
theorem pushesP_zero {E : List PE2} {e : PE2} : pushesP w1 w2 E e 0 = E := rfl
def searchP (l1 l2 : List Bool) (doors : Nat) : Nat → List PE2 → Nat → Option (List Int)
  | 0, _, _ => none
  | f + 1, E, k => match E[k]? with
    | none => none
    | some e => if gt l1 e.2.1 ≠ gt l2 e.2.2 then some e.1 else searchP l1 l2 doors f (pushesP w1 w2 E e doors) (k + 1)
def partOf (l1 : List Bool) (left : Int) (l2 : List Bool) (right : Int) (doors : Nat) : Option (List Int) := searchP w1 w2 l1 l2 doors (w1.length * w2.length + 1) [([], left, right)] 0
/-- the word of a search from (left, right) -/
structure InvP (doors : Nat) (left right : Int) (E : List PE2) : Prop where
  nd : (E.map (·.2)).Nodup
  rg : ∀ e ∈ E, (0 ≤ e.2.1 ∧ e.2.1 < (w1.length : Int)) ∧ 0 ≤ e.2.2 ∧ e.2.2 < (w2.length : Int)
  wd : ∀ e ∈ E, WordOk doors e.1 ∧ walkOf w1 left e.1 = e.2.1 ∧ walkOf w2 right e.1 = e.2.2 ∧ e.1.length < E.length
end
section
variable {w1 w2 : List (List Int)} {l1 l2 : List Bool} {doors : Nat} {left right : Int} {E : List PE2} {e : PE2}
theorem InvP.start (h1 : 0 ≤ left ∧ left < (w1.length : Int)) (h2 : 0 ≤ right ∧ right < (w2.length : Int)) : InvP w1 w2 doors left right [([], left, right)] :=
  ⟨by simp, fun e he => by have : e = ([], left, right) := by simpa using he
                           rw [this]; exact ⟨h1, h2⟩, fun e he => by have : e = ([], left, right) := by simpa using he
                                                                     rw [this]; exact ⟨fun d hd => by simp at hd, rfl, rfl, by simp⟩⟩
theorem InvP.small (h : InvP w1 w2 doors left right E) : E.length ≤ w1.length * w2.length := by
  have := nodup_sub_length (m := (List.range w1.length).flatMap fun a : Nat => (List.range w2.length).map fun b : Nat => ((a : Int), (b : Int))) h.nd (fun p hp => by
    obtain ⟨e, he, rfl⟩ := List.mem_map.mp hp
    obtain ⟨⟨a1, a2⟩, b1, b2⟩ := h.rg e he
    refine List.mem_flatMap.mpr ⟨e.2.1.toNat, List.mem_range.mpr (by omega), List.mem_map.mpr ⟨e.2.2.toNat, List.mem_range.mpr (by omega), ?_⟩⟩
    rw [Int.toNat_of_nonneg a1, Int.toNat_of_nonneg b1])
  rw [List.length_map, List.length_flatMap] at this
  simpa [List.map_const', List.sum_replicate_nat] using this
theorem InvP.push (h : InvP w1 w2 doors left right E) (k1 : HouseOk doors w1 l1) (k2 : HouseOk doors w2 l2) (he : e ∈ E) {d : Nat} (hd : d < doors) : InvP w1 w2 doors left right (pushP w1 w2 E e d) := by
  unfold pushP
  split
  · exact h
  · rename_i hn
    obtain ⟨r1, r2⟩ := h.rg e he
    obtain ⟨g1, g2, g3, g4⟩ := h.wd e he
    have hdd : 0 ≤ (d : Int) ∧ (d : Int) < (doors : Int) := ⟨by omega, by omega⟩
    refine ⟨?_, fun x hx => ?_, fun x hx => ?_⟩
    · rw [List.map_append]
      refine List.nodup_append.mpr ⟨h.nd, by simp, fun a ha b hb => ?_⟩
      intro e'
      have : b = (stepOf w1 e.2.1 d, stepOf w2 e.2.2 d) := by simpa using hb
      exact hn (by rw [← this, ← e']; exact ha)
    · rcases List.mem_append.mp hx with q | q
      · exact h.rg x q
      · have : x = (e.1 ++ [(d : Int)], stepOf w1 e.2.1 d, stepOf w2 e.2.2 d) := by simpa using q
        rw [this]
        exact ⟨step_in k1 r1 hdd, step_in k2 r2 hdd⟩
    · rcases List.mem_append.mp hx with q | q
      · obtain ⟨a, b, c, z⟩ := h.wd x q
        exact ⟨a, b, c, by rw [List.length_append]; omega⟩
      · have : x = (e.1 ++ [(d : Int)], stepOf w1 e.2.1 d, stepOf w2 e.2.2 d) := by simpa using q
        rw [this]
        refine ⟨fun y hy => ?_, by simp only; rw [walkOf_snoc, g2], by simp only; rw [walkOf_snoc, g3], by simp; omega⟩
        rcases List.mem_append.mp hy with z | z
        · exact g1 y z
        · rw [List.mem_singleton.mp z]; exact hdd
theorem pushP_sub {x : PE2} {d : Nat} (h : x ∈ E) : x ∈ pushP w1 w2 E e d := by unfold pushP; split <;> simp [h]
theorem pushP_get {d k : Nat} {x : PE2} (h : E[k]? = some x) : (pushP w1 w2 E e d)[k]? = some x := by
  unfold pushP; split
  · exact h
  · rw [List.getElem?_append_left (List.getElem?_eq_some_iff.mp h).1]; exact h
theorem pushesP_get {k : Nat} {x : PE2} (h : E[k]? = some x) : ∀ n, (pushesP w1 w2 E e n)[k]? = some x
  | 0 => h
  | n + 1 => by rw [pushesP_succ]; exact pushP_get (pushesP_get h n)
theorem InvP.pushes (h : InvP w1 w2 doors left right E) (k1 : HouseOk doors w1 l1) (k2 : HouseOk doors w2 l2) {k : Nat} (he : E[k]? = some e) : ∀ n, n ≤ doors → InvP w1 w2 doors left right (pushesP w1 w2 E e n)
  | 0, _ => h
  | n + 1, hn => by rw [pushesP_succ]; exact (h.pushes k1 k2 he n (by omega)).push k1 k2 (List.mem_of_getElem? (pushesP_get he n)) (by omega)
theorem searchP_sound (k1 : HouseOk doors w1 l1) (k2 : HouseOk doors w2 l2) {w : List Int} : ∀ {f : Nat} {E : List PE2} {k : Nat}, InvP w1 w2 doors left right E → searchP w1 w2 l1 l2 doors f E k = some w → WordOk doors w ∧ gt l1 (walkOf w1 left w) ≠ gt l2 (walkOf w2 right w) ∧ w.length ≤ w1.length * w2.length
  | 0, E, k, _, h => by simp [searchP] at h
  | f + 1, E, k, hi, h => by
    unfold searchP at h
    cases he : E[k]? with
    | none => rw [he] at h; cases h
    | some e =>
      rw [he] at h
      simp only at h
      split at h
      · rename_i hne
        cases h
        obtain ⟨a, b, c, g⟩ := hi.wd e (List.mem_of_getElem? he)
        have := hi.small
        rw [b, c]; exact ⟨a, hne, by omega⟩
      · exact searchP_sound k1 k2 (hi.pushes k1 k2 he doors (Nat.le_refl _)) h
/-- what was met, as a dict -/
def metP (E : List PE2) : List (List Int × Bool) := E.map fun e => ([e.2.1, e.2.2], true)
theorem lk_metP {a b : Int} : (lk (metP E) [a, b]).isSome = decide ((a, b) ∈ E.map (·.2)) := by
  unfold lk getK metP
  rw [Option.isSome_map, List.find?_map, Option.isSome_map, Bool.eq_iff_iff]
  simp only [List.find?_isSome, decide_eq_true_eq, List.mem_map, Function.comp]
  constructor
  · rintro ⟨e, he, h⟩
    refine ⟨e, he, ?_⟩
    simp only [List.cons.injEq, and_true] at h
    exact Prod.ext h.1 h.2
  · rintro ⟨e, he, h⟩
    exact ⟨e, he, by rw [h]⟩
theorem ins_metP {a b : Int} (h : (a, b) ∉ E.map (·.2)) : ins (metP E) [a, b] true = metP E ++ [([a, b], true)] := by
  have := lk_metP (E := E) (a := a) (b := b)
  rw [decide_eq_false h] at this
  unfold ins putKD
  unfold lk at this
  rw [this]; rfl
theorem pushP_new {d : Nat} (h : (stepOf w1 e.2.1 d, stepOf w2 e.2.2 d) ∉ E.map (·.2)) : pushP w1 w2 E e d = E ++ [(e.1 ++ [(d : Int)], stepOf w1 e.2.1 d, stepOf w2 e.2.2 d)] := by unfold pushP; rw [if_neg h]
theorem pushP_old {d : Nat} (h : (stepOf w1 e.2.1 d, stepOf w2 e.2.2 d) ∈ E.map (·.2)) : pushP w1 w2 E e d = E := by unfold pushP; rw [if_pos h]
end
def PartPre (w1 : List (List Int)) (l1 : List Bool) (left : Int) (w2 : List (List Int)) (l2 : List Bool) (right : Int) : Prop := ∃ doors : Int, HouseOk doors w1 l1 ∧ HouseOk doors w2 l2 ∧ (0 ≤ left ∧ left < (w1.length : Int)) ∧ 0 ≤ right ∧ right < (w2.length : Int)
theorem house_mk {doors : Int} {n : Nat} {f : Nat → List Int} {lamps : List Bool} (h1 : 1 ≤ doors) (h2 : doors ≤ 6) (h3 : 1 ≤ n) (h4 : n ≤ 400) (hl : lamps.length = n) (hf : ∀ k, k < n → ((f k).length : Int) = doors ∧ ∀ x ∈ f k, 0 ≤ x ∧ x < (n : Int)) : HouseOk doors ((List.range n).map f) lamps := by
  have hn : ((List.range n).map f).length = n := by simp
  refine ⟨h1, h2, by rw [hn]; omega, by rw [hn]; omega, by rw [hn, hl], fun row hr => ?_⟩
  obtain ⟨k, hk, rfl⟩ := List.mem_map.mp hr
  obtain ⟨a, b⟩ := hf k (List.mem_range.mp hk)
  rw [hn]; exact ⟨a, b⟩
theorem mod_in {x m : Int} (h : 0 < m) : 0 ≤ x % m ∧ x % m < m := ⟨Int.emod_nonneg _ (by omega), Int.emod_lt_of_pos _ h⟩
/-- the ways turned: at most two rooms on -/
def nearW (ways : List (List Int)) (rooms : Int) : List (List Int) := (List.range rooms.toNat).map fun k : Nat => (gt ways (k : Int)).map fun to => ((k : Int) + to % 3) % rooms
theorem nearW_ok {doors rooms : Int} {ways : List (List Int)} {lamps lamps' : List Bool} (h : HouseOk doors ways lamps) (hr : (ways.length : Int) = rooms) (hl : (lamps'.length : Int) = rooms) : HouseOk doors (nearW ways rooms) lamps' := by
  have h3 := h.2.2.1
  have h4 := h.2.2.2.1
  refine house_mk h.1 h.2.1 (by omega) (by omega) (by omega) fun k hk => ⟨?_, fun x hx => ?_⟩
  · rw [List.length_map]; exact row_len h ⟨by omega, by omega⟩
  · obtain ⟨to, _, rfl⟩ := List.mem_map.mp hx
    have := mod_in (x := (k : Int) + to % 3) (m := rooms) (by omega)
    omega
end Ask
/-! Lit words counted, numbered. -/
namespace Ask
section
variable (ways : List (List Int)) (lamps : List Bool)
/-- how many lit words of a size lead on from a room -/
def cnt : Nat → Int → Int
  | 0, r => if gt lamps r then 1 else 0
  | k + 1, r => ((gt ways r).map (cnt k)).sum
def pickD : List Int → Int → Nat × Int
  | [], a => (0, a)
  | c :: cs, a => if a < c then (0, a) else ((pickD cs (a - c)).1 + 1, (pickD cs (a - c)).2)
def unrk : Nat → Int → Int → List Int
  | 0, _, _ => []
  | k + 1, r, a => ((pickD ((gt ways r).map (cnt ways lamps k)) a).1 : Int) :: unrk k (stepOf ways r (pickD ((gt ways r).map (cnt ways lamps k)) a).1) (pickD ((gt ways r).map (cnt ways lamps k)) a).2
def rnk : Int → List Int → Int
  | _, [] => 0
  | r, d :: w => (((gt ways r).take d.toNat).map (cnt ways lamps w.length)).sum + rnk (stepOf ways r d) w
def litOf (r : Int) (w : List Int) : Bool := gt lamps (walkOf ways r w)
end
section
variable {ways : List (List Int)} {lamps : List Bool} {doors : Int}
theorem sum_nonneg : ∀ {l : List Int}, (∀ x ∈ l, 0 ≤ x) → 0 ≤ l.sum
  | [], _ => Int.le_refl _
  | a :: l, h => by
    have h1 := h a (by simp)
    have h2 := sum_nonneg (l := l) fun x hx => h x (by simp [hx])
    rw [List.sum_cons]; omega
theorem cnt_nonneg : ∀ k r, 0 ≤ cnt ways lamps k r
  | 0, r => by unfold cnt; split <;> omega
  | k + 1, r => sum_nonneg fun x hx => by
    obtain ⟨y, _, rfl⟩ := List.mem_map.mp hx
    exact cnt_nonneg k y
theorem pick_in : ∀ {cs : List Int} {a : Int}, 0 ≤ a → a < cs.sum → ∃ c, cs[(pickD cs a).1]? = some c ∧ 0 ≤ (pickD cs a).2 ∧ (pickD cs a).2 < c ∧ (pickD cs a).2 + (cs.take (pickD cs a).1).sum = a
  | [], a, h, h2 => by simp at h2; omega
  | c :: cs, a, h, h2 => by
    unfold pickD
    rw [List.sum_cons] at h2
    split
    · exact ⟨c, rfl, h, by assumption, by simp⟩
    · obtain ⟨c', h3, h4, h5, h6⟩ := pick_in (cs := cs) (a := a - c) (by omega) (by omega)
      exact ⟨c', by simpa using h3, h4, h5, by simp only [List.take_succ_cons, List.sum_cons]; omega⟩
theorem sum_take_le {cs : List Int} (h : ∀ x ∈ cs, 0 ≤ x) : ∀ {i j : Nat}, i ≤ j → (cs.take i).sum ≤ (cs.take j).sum := by
  induction cs with
  | nil => intro i j _; simp
  | cons c cs ih =>
    intro i j hij
    cases i with
    | zero => simp only [List.take_zero, List.sum_nil]; exact sum_nonneg fun x hx => h x (List.mem_of_mem_take hx)
    | succ i => cases j with
      | zero => omega
      | succ j =>
        have := ih (fun x hx => h x (by simp [hx])) (i := i) (j := j) (by omega)
        simp only [List.take_succ_cons, List.sum_cons]; omega
theorem pick_of : ∀ {cs : List Int} {d : Nat} {a c : Int}, (∀ x ∈ cs, 0 ≤ x) → cs[d]? = some c → 0 ≤ a → a < c → pickD cs ((cs.take d).sum + a) = (d, a)
  | [], d, a, c, _, h, _, _ => by simp at h
  | x :: cs, 0, a, c, hn, h, h1, h2 => by
    simp only [List.getElem?_cons_zero, Option.some.injEq] at h
    subst h
    unfold pickD
    simp only [List.take_zero, List.sum_nil, Int.zero_add]
    rw [if_pos h2]
  | x :: cs, d + 1, a, c, hn, h, h1, h2 => by
    simp only [List.getElem?_cons_succ] at h
    have hs := sum_nonneg (l := cs.take d) fun y hy => hn y (by simp [List.mem_of_mem_take hy])
    rw [show ((x :: cs).take (d + 1)).sum + a = x + (cs.take d).sum + a from by rw [List.take_succ_cons, List.sum_cons]]
    unfold pickD
    rw [if_neg (by omega), show x + (cs.take d).sum + a - x = (cs.take d).sum + a by omega, pick_of (fun y hy => hn y (by simp [hy])) h h1 h2]
theorem row_get {r : Int} {d : Nat} (hd : d < (gt ways r).length) : (gt ways r)[d]? = some (stepOf ways r (d : Int)) := by
  have := get_gt (l := gt ways r) (k := (d : Int)) (by omega) (by omega)
  rwa [Int.toNat_natCast] at this
theorem cnt_get {k : Nat} {r : Int} {d : Nat} (hd : d < (gt ways r).length) : ((gt ways r).map (cnt ways lamps k))[d]? = some (cnt ways lamps k (stepOf ways r (d : Int))) := by
  rw [List.getElem?_map, row_get hd]; rfl
/-- the number's word: its size, its doors, that it is lit, its number -/
theorem unrk_ok (h : HouseOk doors ways lamps) : ∀ {k : Nat} {r a : Int}, 0 ≤ r ∧ r < (ways.length : Int) → 0 ≤ a → a < cnt ways lamps k r →
    (unrk ways lamps k r a).length = k ∧ WordOk doors (unrk ways lamps k r a) ∧ litOf ways lamps r (unrk ways lamps k r a) = true ∧ rnk ways lamps r (unrk ways lamps k r a) = a
  | 0, r, a, hr, h1, h2 => by
    unfold cnt at h2
    have hl : gt lamps r = true := by
      by_cases q : gt lamps r = true
      · exact q
      · rw [if_neg q] at h2; omega
    rw [if_pos hl] at h2
    exact ⟨rfl, fun d hd => by simp [unrk] at hd, hl, by unfold unrk rnk; omega⟩
  | k + 1, r, a, hr, h1, h2 => by
    obtain ⟨c, g1, g2, g3, g4⟩ := pick_in h1 h2
    have hrl := row_len h hr
    have hd : (pickD ((gt ways r).map (cnt ways lamps k)) a).1 < (gt ways r).length := by have := (List.getElem?_eq_some_iff.mp g1).1; simpa using this
    rw [cnt_get hd] at g1
    cases g1
    have hst := step_in h hr (d := ((pickD ((gt ways r).map (cnt ways lamps k)) a).1 : Int)) ⟨by omega, by omega⟩
    obtain ⟨i1, i2, i3, i4⟩ := unrk_ok h hst g2 g3
    unfold unrk
    generalize pickD ((gt ways r).map (cnt ways lamps k)) a = pr at *
    refine ⟨by rw [List.length_cons, i1], fun d hd' => ?_, i3, ?_⟩
    · rcases List.mem_cons.mp hd' with rfl | q
      · exact ⟨by omega, by omega⟩
      · exact i2 d q
    · unfold rnk
      rw [i4, i1, Int.toNat_natCast, List.map_take]
      omega
theorem rnk_in (h : HouseOk doors ways lamps) : ∀ {w : List Int} {r : Int}, 0 ≤ r ∧ r < (ways.length : Int) → WordOk doors w → litOf ways lamps r w = true → 0 ≤ rnk ways lamps r w ∧ rnk ways lamps r w < cnt ways lamps w.length r ∧ unrk ways lamps w.length r (rnk ways lamps r w) = w
  | [], r, hr, _, hl => by
    have hl' : gt lamps r = true := hl
    unfold rnk
    refine ⟨Int.le_refl _, ?_, rfl⟩
    show 0 < cnt ways lamps 0 r
    unfold cnt; rw [if_pos hl']; decide
  | d :: w, r, hr, hw, hl => by
    have hd := hw d (by simp)
    have hrl := row_len h hr
    obtain ⟨i1, i2, i3⟩ := rnk_in h (w := w) (step_in h hr hd) (fun x hx => hw x (by simp [hx])) hl
    have hdn : d.toNat < (gt ways r).length := by omega
    have hcast : (d.toNat : Int) = d := by omega
    have hg := cnt_get (lamps := lamps) (k := w.length) hdn
    rw [hcast] at hg
    have hp := pick_of (cs := (gt ways r).map (cnt ways lamps w.length)) (fun x hx => by obtain ⟨y, _, rfl⟩ := List.mem_map.mp hx; exact cnt_nonneg _ _) hg i1 i2
    have hs0 : 0 ≤ (((gt ways r).take d.toNat).map (cnt ways lamps w.length)).sum := sum_nonneg fun x hx => by obtain ⟨y, _, rfl⟩ := List.mem_map.mp hx; exact cnt_nonneg _ _
    refine ⟨by unfold rnk; omega, ?_, ?_⟩
    · unfold rnk
      show _ < ((gt ways r).map (cnt ways lamps w.length)).sum
      have hle := sum_take_le (cs := (gt ways r).map (cnt ways lamps w.length)) (fun x hx => by obtain ⟨y, _, rfl⟩ := List.mem_map.mp hx; exact cnt_nonneg _ _) (i := d.toNat + 1) (j := (gt ways r).length) (by omega)
      rw [List.take_add_one, hg, List.take_of_length_le (i := (gt ways r).length) (l := (gt ways r).map (cnt ways lamps w.length)) (by simp)] at hle
      simp only [Option.toList_some, List.sum_append, List.sum_cons, List.sum_nil] at hle
      rw [List.map_take]
      omega
    · show unrk ways lamps (w.length + 1) r _ = d :: w
      unfold unrk rnk
      rw [List.map_take, hp, hcast, i3]
theorem unrk_succ {k : Nat} {r a : Int} : unrk ways lamps (k + 1) r a = ((pickD ((gt ways r).map (cnt ways lamps k)) a).1 : Int) :: unrk ways lamps k (stepOf ways r (pickD ((gt ways r).map (cnt ways lamps k)) a).1) (pickD ((gt ways r).map (cnt ways lamps k)) a).2 := rfl
theorem unrk_zero {r a : Int} : unrk ways lamps 0 r a = [] := rfl
theorem rnk_cons {r d : Int} {w : List Int} : rnk ways lamps r (d :: w) = (((gt ways r).take d.toNat).map (cnt ways lamps w.length)).sum + rnk ways lamps (stepOf ways r d) w := rfl
theorem rnk_nil {r : Int} : rnk ways lamps r [] = 0 := rfl
theorem pick_more {c a : Int} {cs : List Int} (h : ¬ a < c) : pickD (c :: cs) a = ((pickD cs (a - c)).1 + 1, (pickD cs (a - c)).2) := if_neg h
theorem pick_here {c a : Int} {cs : List Int} (h : a < c) : pickD (c :: cs) a = (0, a) := if_pos h
theorem lit_is {r : Int} {w : List Int} : litOf ways lamps r w = gt lamps (walkOf ways r w) := rfl
/-- the rows of numbers -/
def rowC (ways : List (List Int)) (lamps : List Bool) (k : Nat) : List Int := (List.range ways.length).map fun r : Nat => cnt ways lamps k (r : Int)
def aheadOf (ways : List (List Int)) (lamps : List Bool) (m : Nat) : List (List Int) := (List.range (m + 1)).map (rowC ways lamps)
theorem gt_range {α : Type} [Inhabited α] {n : Nat} {f : Nat → α} {i : Int} (h : 0 ≤ i ∧ i < (n : Int)) : gt ((List.range n).map f) i = f i.toNat := by
  unfold gt
  rw [List.getD_eq_getElem?_getD, List.getElem?_map, List.getElem?_range (by omega)]; rfl
theorem map_gt {α β : Type} [Inhabited α] {l : List α} {g : α → β} : l.map g = (List.range l.length).map fun i : Nat => g (gt l (i : Int)) := by
  refine List.ext_getElem? fun i => ?_
  rw [List.getElem?_map, List.getElem?_map]
  by_cases h : i < l.length
  · rw [List.getElem?_range h, List.getElem?_eq_getElem h]
    show some (g l[i]) = some (g (gt l (i : Int)))
    rw [gt_nat (List.getElem?_eq_getElem h)]
  · rw [List.getElem?_eq_none (by omega), List.getElem?_eq_none (by simp; omega)]; rfl
theorem rowC_gt {k : Nat} {r : Int} (h : 0 ≤ r ∧ r < (ways.length : Int)) : gt (rowC ways lamps k) r = cnt ways lamps k r := by
  unfold rowC
  rw [gt_range h, Int.toNat_of_nonneg h.1]
theorem rowC_len {k : Nat} : (rowC ways lamps k).length = ways.length := by simp [rowC]
theorem ahead_gt {m : Nat} {i : Int} (h : 0 ≤ i ∧ i ≤ (m : Int)) : gt (aheadOf ways lamps m) i = rowC ways lamps i.toNat := by
  unfold aheadOf; rw [gt_range ⟨h.1, by omega⟩]
theorem ahead_len {m : Nat} : (aheadOf ways lamps m).length = m + 1 := by simp [aheadOf]
theorem rowC_zero (h : HouseOk doors ways lamps) : lamps.map (fun b => if b = true then (1 : Int) else 0) = rowC ways lamps 0 := by
  rw [map_gt, h.2.2.2.2.1]; rfl
theorem rowC_succ {k : Nat} : ways.map (fun row => (row.map (cnt ways lamps k)).sum) = rowC ways lamps (k + 1) := by
  rw [map_gt]; rfl
theorem flatMap_same {α β : Type} {l : List α} {f g : α → List β} (h : ∀ a ∈ l, f a = g a) : l.flatMap f = l.flatMap g := by
  rw [List.flatMap_def, List.flatMap_def, List.map_congr_left h]
/-- all words of a size, in order -/
def wordsL (n : Nat) : Nat → List (List Int)
  | 0 => [[]]
  | k + 1 => (wordsL n k).flatMap fun w => (List.range n).map fun d : Nat => w ++ [(d : Int)]
def wordsF (n : Nat) : Nat → List (List Int)
  | 0 => [[]]
  | k + 1 => (List.range n).flatMap fun d : Nat => (wordsF n k).map fun w => (d : Int) :: w
theorem wordsF_succ {n : Nat} : ∀ k, wordsF n (k + 1) = (wordsF n k).flatMap fun w => (List.range n).map fun d : Nat => w ++ [(d : Int)]
  | 0 => by simp [wordsF, List.flatMap_singleton, List.map_eq_flatMap]
  | k + 1 => by
    show (List.range n).flatMap (fun d : Nat => (wordsF n (k + 1)).map fun w => (d : Int) :: w) = ((List.range n).flatMap fun d : Nat => (wordsF n k).map fun w => (d : Int) :: w).flatMap _
    rw [List.flatMap_assoc]
    refine flatMap_same fun d _ => ?_
    rw [wordsF_succ k, List.map_flatMap, List.flatMap_map]
    refine flatMap_same fun w _ => ?_
    rw [List.map_map]; rfl
theorem wordsLF {n : Nat} : ∀ k, wordsL n k = wordsF n k
  | 0 => rfl
  | k + 1 => by rw [wordsF_succ, ← wordsLF k]; rfl
theorem wordsL_len {n : Nat} : ∀ k, (wordsL n k).length = n ^ k
  | 0 => rfl
  | k + 1 => by
    show ((wordsL n k).flatMap _).length = _
    rw [List.length_flatMap]
    simp only [List.length_map, List.length_range, List.map_const', List.sum_replicate_nat]
    rw [wordsL_len k, Nat.pow_succ]
theorem wordsL_ok {n : Nat} : ∀ {k : Nat} {w : List Int}, w ∈ wordsL n k → w.length = k ∧ WordOk n w
  | 0, w, h => by
    have : w = [] := by simpa [wordsL] using h
    subst this; exact ⟨rfl, fun d hd => by simp at hd⟩
  | k + 1, w, h => by
    obtain ⟨v, hv, h⟩ := List.mem_flatMap.mp h
    obtain ⟨d, hd, rfl⟩ := List.mem_map.mp h
    obtain ⟨a, b⟩ := wordsL_ok hv
    have hd' := List.mem_range.mp hd
    refine ⟨by simp [a], fun x hx => ?_⟩
    rcases List.mem_append.mp hx with q | q
    · exact b x q
    · rw [List.mem_singleton.mp q]; exact ⟨by omega, by omega⟩
theorem flat_get {β : Type} : ∀ {L : List (List β)} {a : Int}, 0 ≤ a → a < (L.map fun l => (l.length : Int)).sum → ∃ l, L[(pickD (L.map fun l => (l.length : Int)) a).1]? = some l ∧ L.flatten[a.toNat]? = l[(pickD (L.map fun l => (l.length : Int)) a).2.toNat]?
  | [], a, h, h2 => by simp at h2; omega
  | l :: L, a, h, h2 => by
    simp only [List.map_cons, List.sum_cons] at h2
    simp only [List.map_cons]
    unfold pickD
    split
    · exact ⟨l, rfl, by rw [List.flatten_cons, List.getElem?_append_left (by omega)]⟩
    · obtain ⟨l', h3, h4⟩ := flat_get (L := L) (a := a - l.length) (by omega) (by omega)
      refine ⟨l', by simpa using h3, ?_⟩
      rw [List.flatten_cons, List.getElem?_append_right (by omega), ← h4]
      congr 1; omega
/-- the lit words of a size, in order -/
def litW (ways : List (List Int)) (lamps : List Bool) (n k : Nat) (r : Int) : List (List Int) := (wordsF n k).filter (litOf ways lamps r)
theorem litW_succ {n k : Nat} {r : Int} : litW ways lamps n (k + 1) r = ((List.range n).map fun d : Nat => (litW ways lamps n k (stepOf ways r (d : Int))).map fun w => (d : Int) :: w).flatten := by
  unfold litW
  show ((List.range n).flatMap fun d : Nat => (wordsF n k).map fun w => (d : Int) :: w).filter _ = _
  rw [List.filter_flatMap, ← List.flatMap_def]
  refine flatMap_same fun d _ => ?_
  rw [List.filter_map]; rfl
theorem litW_ok (h : HouseOk doors ways lamps) {n : Nat} (hn : (n : Int) = doors) : ∀ {k : Nat} {r : Int}, 0 ≤ r ∧ r < (ways.length : Int) → ((litW ways lamps n k r).length : Int) = cnt ways lamps k r ∧ ∀ a, 0 ≤ a → a < cnt ways lamps k r → (litW ways lamps n k r)[a.toNat]? = some (unrk ways lamps k r a)
  | 0, r, hr => by
    unfold litW wordsF cnt
    by_cases q : gt lamps r = true
    · have : litOf ways lamps r [] = true := q
      rw [List.filter_cons_of_pos this, if_pos q]
      exact ⟨rfl, fun a h1 h2 => by rw [show a = 0 by omega]; rfl⟩
    · have : ¬ litOf ways lamps r [] = true := q
      rw [List.filter_cons_of_neg this, if_neg q]
      exact ⟨rfl, fun a h1 h2 => by omega⟩
  | k + 1, r, hr => by
    have hrl := row_len h hr
    have hlen : (((List.range n).map fun d : Nat => (litW ways lamps n k (stepOf ways r (d : Int))).map fun w => (d : Int) :: w).map fun l => (l.length : Int)) = (gt ways r).map (cnt ways lamps k) := by
      rw [List.map_map, map_gt (l := gt ways r), show (gt ways r).length = n by omega]
      refine List.map_congr_left fun d hd => ?_
      have hd' := List.mem_range.mp hd
      show (((litW ways lamps n k (stepOf ways r (d : Int))).map _).length : Int) = _
      rw [List.length_map, (litW_ok h hn (step_in h hr ⟨by omega, by omega⟩)).1]; rfl
    have hsum : cnt ways lamps (k + 1) r = ((gt ways r).map (cnt ways lamps k)).sum := rfl
    rw [litW_succ]
    refine ⟨?_, fun a h1 h2 => ?_⟩
    · rw [List.length_flatten, hsum, ← hlen]
      generalize (((List.range n).map fun d : Nat => (litW ways lamps n k (stepOf ways r (d : Int))).map fun w => (d : Int) :: w)) = L
      induction L with
      | nil => rfl
      | cons l L ih => simp only [List.map_cons, List.sum_cons] at ih ⊢; omega
    · rw [hsum, ← hlen] at h2
      obtain ⟨l, g1, g2⟩ := flat_get h1 h2
      rw [hlen] at g1 g2 h2
      rw [g2]
      obtain ⟨c, p1, p2, p3, _⟩ := pick_in h1 h2
      unfold unrk
      generalize pickD ((gt ways r).map (cnt ways lamps k)) a = pr at *
      have hd : pr.1 < n := by have := (List.getElem?_eq_some_iff.mp g1).1; simpa using this
      rw [List.getElem?_map, List.getElem?_range hd] at g1
      cases g1
      rw [cnt_get (by omega)] at p1
      cases p1
      rw [List.getElem?_map, (litW_ok h hn (step_in h hr ⟨by omega, by omega⟩)).2 pr.2 p2 p3]; rfl
end
end Ask
/-! Books: an instance and its dict, owned. -/
namespace Ask
open PySem L2
abbrev Notes := List (List Int × Bool)
abbrev bookI (CB : Addr) (n : Addr) (doors : Int) : Cell := .ins CB ["doors", "notes"] [.int doors, .ref n]
abbrev bookD (m : Notes) : Cell := .dT (entT Dt.bl m)
abbrev bookM (CB b n : Addr) (doors : Int) (m : Notes) : Ms := [.one b (bookI CB n doors), .one n (bookD m)]
def fnB (CB : Addr) (R : Int → Notes → List Dt → Except Addr (Dt × Notes) → Prop) : FT := fun ds M Φ Ξ => ∃ b n doors m as r, ds = .ref b :: as ∧ M = bookM CB b n doors m ∧ R doors m as r ∧ (∀ d m', r = .ok (d, m') → Φ d (bookM CB b n doors m')) ∧ ∀ X, r = .error X → Ξ X (bookM CB b n doors m)
def fnBI (CB X : Addr) : FT := fun ds M Φ Ξ => ∃ p doors, ds = [.ref p, .int doors] ∧ M = [.one p (.ins CB [] [])] ∧ (1 ≤ doors ∧ doors ≤ 6 → ∀ n, Φ .non (bookM CB p n doors [])) ∧ (¬ (1 ≤ doors ∧ doors ≤ 6) → Ξ X [.one p (.ins CB [] [])])
section
variable {K : PySem.W.Frag} {B : Fr} {s : Sl} {M M' : Ms} {Φ : Dt → Ms → Prop} {te : TE} {t : TA} {n : Nat} {ds : List Dt} {W : WX} {Ξ : Addr → Sl → Ms → Prop} {C CB X : Addr} {m : Str} {R : Int → Notes → List Dt → Except Addr (Dt × Notes) → Prop}
/-- what a book's method comes to -/
def CallB (M : Ms) (CB : Addr) (m : Str) (R : Int → Notes → List Dt → Except Addr (Dt × Notes) → Prop) (n : Nat) (o : Dt) (as : List Dt) (A : Dt → Ms → Prop) (E : Addr → Prop) : Prop :=
  ∃ b nn doors ms r, o = .ref b ∧ as.length + 1 = n ∧ m ∉ (["doors", "notes"] : List Str) ∧ Ent.one b (bookI CB nn doors) ∈ M ∧ Ent.one nn (bookD ms) ∈ M ∧ R doors ms as r ∧ (∀ d m', r = .ok (d, m') → ∃ M', Upd M nn (bookD ms) (bookD m') M' ∧ A d M') ∧ ∀ X, r = .error X → E X
theorem perm_two {M : Ms} {e1 e2 : Ent} (h1 : e1 ∈ M) (h2 : e2 ∈ M) (hne : e1 ≠ e2) : ∃ Mr, M.Perm (e1 :: e2 :: Mr) := by
  obtain ⟨a, b, rfl⟩ := List.append_of_mem h1
  have p1 : (a ++ e1 :: b).Perm (e1 :: (a ++ b)) := List.perm_middle
  have h2' : e2 ∈ a ++ b := by
    rcases List.mem_append.mp h2 with q | q
    · exact List.mem_append_left _ q
    · rcases List.mem_cons.mp q with q | q
      · exact absurd q.symm hne
      · exact List.mem_append_right _ q
  obtain ⟨c, d, e⟩ := List.append_of_mem h2'
  exact ⟨c ++ d, p1.trans (by rw [e]; exact (List.perm_middle).cons _)⟩
theorem Upd.cons_perm {M M' : Ms} {a : Addr} {c c' : Cell} {Mr : Ms} {e : Ent} (u : Upd M a c c' M') (h : M.Perm (e :: .one a c :: Mr)) (hn : (fpM M).Nodup) : M'.Perm (e :: .one a c' :: Mr) := by
  obtain ⟨Mx, h1, h2⟩ := u.perm
  have h3 : (Ent.one a c :: Mx).Perm (.one a c :: e :: Mr) := (h1.symm.trans h).trans (.swap _ _ _)
  exact (h2.trans ((List.Perm.cons_inv h3).cons _)).trans (.swap _ _ _)
def BookAt (M : Ms) (CB : Addr) (m : Str) (o : Dt) (Q : Prop) : Prop := ∃ b nn doors, o = .ref b ∧ Ent.one b (bookI CB nn doors) ∈ M ∧ m ∉ (["doors", "notes"] : List Str) ∧ Q
instance s_methB [z : XOkC K B W Ξ] : Stp (EvW K B (tMethS CB m (spG K n (fnB CB R)) (WE W) te t) s M Φ) (EvW K B te s M fun o M1 => BookAt M1 CB m o (EvA K B t s M1 fun as M2 => CallB M2 CB m R n o as Φ fun X => Ξ X s M2)) := ⟨fun h => fun G H σ Q L S q =>
  h G H σ _ L S fun v o M1 G1 H1 L1 e1 r1 h1 => by
    obtain ⟨b, nn, doors, rfl, hb, hm, h1⟩ := h1
    obtain ⟨dx, ws, ea, l, _⟩ := L1.ats _ hb
    refine ⟨b, dx, _, r1.refOf, ea, lookF_none hm, h1 G1 H1 σ _ L1 (S.mono e1) fun vs as M2 G2 H2 L2 e2 rs c => ?_⟩
    obtain ⟨b', nn', doors', ms, r, eb, hn, _, hb2, hd2, hr, k1, k2⟩ := c
    cases eb
    obtain ⟨Mr, hp⟩ := perm_two hb2 hd2 (fun e => by cases e)
    refine call_core (n := n) (F := fnB CB R) (ds := .ref b :: as) (Ma := bookM CB b nn' doors' ms) (Mr := Mr) (Φ := fun d M3 => ∃ m', r = .ok (d, m') ∧ M3 = bookM CB b nn' doors' m' ++ Mr) (Ξc := fun X s3 M3 => s3 = s ∧ r = .error X ∧ M3 = bookM CB b nn' doors' ms ++ Mr)
      (fun X s3 M3 G3 H3 σ3 L3 S3 k => ?_) (by simpa using hn) hp ⟨b, nn', doors', ms, as, r, rfl, rfl, hr, fun d m' e => ⟨m', e, rfl⟩, fun X e => ⟨rfl, e, rfl⟩⟩ L2 (S.mono (e1.trans e2)) (.cons (r1.mono e2) rs) fun v3 d M3 G3 H3 L3 e3 r3 k => ?_
    · obtain ⟨rfl, e, rfl⟩ := k
      exact z.h X s3 M2 G3 H3 σ3 (L3.perm hp.symm) S3 (k2 X e)
    · obtain ⟨m', e, rfl⟩ := k
      obtain ⟨M4, u, ha⟩ := k1 d m' e
      exact q v3 d M4 G3 H3 (L3.perm (u.cons_perm hp L2.nd).symm) ((e1.trans e2).trans e3) r3 ha⟩
class FnB (R : Int → Notes → List Dt → Except Addr (Dt × Notes) → Prop) (doors : Int) (ms : Notes) (as : List Dt) (pre : outParam Prop) (r : outParam (Except Addr (Dt × Notes))) : Prop where h : pre → R doors ms as r
def ResB (M : Ms) (nn : Addr) (ms : Notes) (r : Except Addr (Dt × Notes)) (A : Dt → Ms → Prop) (E : Addr → Prop) : Prop := (∀ d m', r = .ok (d, m') → ∃ M', Upd M nn (bookD ms) (bookD m') M' ∧ A d M') ∧ ∀ X, r = .error X → E X
section
variable {b nn : Addr} {doors : Int} {ms m' : Notes} {as : List Dt} {A : Dt → Ms → Prop} {E : Addr → Prop} {Q pre p : Prop} {r r1 r2 : Except Addr (Dt × Notes)} {d : Dt}
instance s_bookat [f : FindC M b (bookI CB nn doors)] : Stp (BookAt M CB m (.ref b) Q) (Pre (m ∉ (["doors", "notes"] : List Str)) Q) := ⟨fun k => ⟨b, nn, doors, rfl, f.h, k.1, k.2⟩⟩
instance s_callB [f : FindC M b (bookI CB nn doors)] [g : FindC M nn (bookD ms)] [l : LenN as n] [h : FnB R doors ms as pre r] : Stp (CallB M CB m R (n + 1) (.ref b) as A E) (Pre (m ∉ (["doors", "notes"] : List Str)) (Pre pre (ResB M nn ms r A E))) := ⟨fun k => ⟨b, nn, doors, ms, r, rfl, by rw [l.h], k.1, f.h, g.h, h.h k.2.1, k.2.2.1, k.2.2.2⟩⟩
instance s_resb_ok [u : PutC M nn (bookD ms) (bookD m') M'] : Stp (ResB M nn ms (.ok (d, m')) A E) (A d M') := ⟨fun k => ⟨(fun _ _ e => by cases e; exact ⟨M', u.h, k⟩), (fun _ e => by cases e)⟩⟩
instance s_resb_er {X : Addr} : Stp (ResB M nn ms (.error X) A E) (E X) := ⟨fun k => ⟨(fun _ _ e => by cases e), (fun _ e => by cases e; exact k)⟩⟩
instance s_resb_if [q : Decidable p] : Stp (ResB M nn ms (if p then r1 else r2) A E) (Br p (ResB M nn ms r1 A E) (ResB M nn ms r2 A E)) := ⟨fun k => by
  by_cases h : p
  · rw [if_pos h]; exact k.1 h
  · rw [if_neg h]; exact k.2 h⟩
end
/-- Book(doors) -/
def CallBI (M : Ms) (as : List Dt) (A : Int → Prop) (E : Prop) : Prop := ∃ doors, as = [.int doors] ∧ (1 ≤ doors ∧ doors ≤ 6 → A doors) ∧ (¬ (1 ≤ doors ∧ doors ≤ 6) → E)
def OwnBk (B : Fr) (CB : Addr) (doors : Int) (Φ : Dt → Ms → Prop) (M : Ms) : Prop := ∀ p n, p ∉ B.T → n ∉ B.T → Φ (.ref p) (bookM CB p n doors [] ++ M)
instance s_makeB [z : XOkC K B W Ξ] : Stp (EvW K B (tMakeS CB (spG K 2 (fnBI CB X)) (WE W) t) s M Φ) (EvA K B t s M fun as M1 => CallBI M1 as (fun doors => OwnBk B CB doors Φ M1) (Ξ X s M1)) := ⟨fun h => by
  refine fun G H σ Q L S q => h G H σ _ L S fun vs as M' G' H' L' e r c p dx hp hdx hne => ?_
  obtain ⟨doors, rfl, k1, k2⟩ := c
  have hpT : p ∉ B.T := fun z => L'.freshM hp (L'.tin p z)
  have Ld := L'.laid0 (o := .own p) hdx
  have hp' : upd H' dx (.own p) p = none := by rw [upd_ne hne.symm]; exact hp
  have Lx : Lay K B G' (.one p (.ins CB [] []) :: M') (upd (upd H' dx (.own p)) p (.ins CB dx [])) := Ld.laidM (c := .ins CB [] []) hp' ⟨dx, [], upd_same, rfl, .nil⟩
  refine call_core (n := 2) (F := fnBI CB X) (ds := [.ref p, .int doors]) (Ma := [.one p (.ins CB [] [])]) (Mr := M') (Φ := fun d M2 => d = .non ∧ (1 ≤ doors ∧ doors ≤ 6) ∧ ∃ n, M2 = bookM CB p n doors [] ++ M') (Ξc := fun Y s2 M2 => s2 = s ∧ Y = X ∧ ¬ (1 ≤ doors ∧ doors ≤ 6) ∧ M2 = .one p (.ins CB [] []) :: M') (fun Y s2 M2 G2 H2 σ2 L2 S2 k => ?_) rfl (.refl _)
    ⟨p, doors, rfl, rfl, fun hd n => ⟨rfl, hd, n, rfl⟩, fun hd => ⟨rfl, rfl, hd, rfl⟩⟩ Lx (S.mono e) (.cons (.ref p) r) fun v d M2 G2 H2 L2 e2 r2 k => ?_
  · obtain ⟨rfl, rfl, hd, rfl⟩ := k
    exact z.h _ s2 M' G2 H2 σ2 (L2.forget hpT) S2 (k2 hd)
  · obtain ⟨rfl, hd, nn, rfl⟩ := k
    have hnT : nn ∉ B.T := fun zz => by
      have h1 := L'.tin nn zz
      have nd := L2.nd
      simp only [List.cons_append, List.nil_append, fpM_cons, Ent.fp] at nd
      have := (List.nodup_cons.mp nd).2
      exact (List.nodup_cons.mp this).1 h1
    exact ⟨r2.nonOf, q _ _ _ G2 H2 L2 (e.trans e2) (.ref p) (k1 hd p nn hpT hnT)⟩⟩
instance s_callBI {doors : Int} {A : Int → Prop} {E : Prop} : Stp (CallBI M [.int doors] A E) (Br (1 ≤ doors ∧ doors ≤ 6) (A doors) E) := ⟨fun k => ⟨doors, rfl, k.1, k.2⟩⟩
section
variable {vs : List V} {H : Hp} {Q : VK} {E : XK} {ts : TS} {N : List Str}
theorem enterB (h : spG K n (fnB CB R) vs H Q E)
    (k : ∀ (B : Fr) (b nn : Addr) (doors : Int) (ms : Notes) (as : List Dt) (r : Except Addr (Dt × Notes)), R doors ms as r → XOkC K B (WF E) (fun X _ M => r = .error X ∧ M = bookM CB b nn doors ms) →
      WPs K B ts { nx := fun _ M => ∃ m', r = .ok (.non, m') ∧ M = bookM CB b nn doors m', rt := fun d M => ∃ m', r = .ok (d, m') ∧ M = bookM CB b nn doors m' } (startD N.length (.ref b :: as)) (bookM CB b nn doors ms)) :
    ts { nx := fun _ H' => Q .non H', rt := Q } (L2.start N vs) H := by
  obtain ⟨hl, G, M, ds, Φ, Ξ, L, rp, ⟨b, nn, doors, ms, as, r, rfl, rfl, hr, k1, k2⟩, kQ, kE⟩ := h
  refine k ⟨G, H, fpM (bookM CB b nn doors ms)⟩ b nn doors ms as r hr ⟨fun X s M' G' H' σ L' _ z => ?_⟩ _ G H _ ⟨fun s M' G' H' σ z L' _ _ => ?_, fun v d M' G' H' z L' _ r' => ?_, fun _ _ _ _ _ x => x.elim, fun _ _ _ _ _ x => x.elim⟩ L (slots_start rp)
  · obtain ⟨z, rfl⟩ := z; exact kE X _ G' H' L' (k2 X z)
  · obtain ⟨m', z, rfl⟩ := z; exact kQ .non .non _ G' H' L' .non (k1 _ _ z)
  · obtain ⟨m', z, rfl⟩ := z; exact kQ v d _ G' H' L' r' (k1 _ _ z)
theorem enterBI (h : spG K 2 (fnBI CB X) vs H Q E)
    (k : ∀ (B : Fr) (p : Addr) (doors : Int), B.T = [p] → XOkC K B (WF E) (fun Y _ M => Y = X ∧ ¬ (1 ≤ doors ∧ doors ≤ 6) ∧ M = [.one p (.ins CB [] [])]) →
      WPs K B ts { nx := fun _ M => (1 ≤ doors ∧ doors ≤ 6) ∧ ∃ n, M.Perm (bookM CB p n doors []), rt := fun d M => False } (startD N.length [.ref p, .int doors]) [.one p (.ins CB [] [])]) :
    ts { nx := fun _ H' => Q .non H', rt := Q } (L2.start N vs) H := by
  obtain ⟨hl, G, M, ds, Φ, Ξ, L, rp, ⟨p, doors, rfl, rfl, k1, k2⟩, kQ, kE⟩ := h
  refine k ⟨G, H, [p]⟩ p doors rfl ⟨fun Y s M' G' H' σ L' _ z => ?_⟩ _ G H _ ⟨fun s M' G' H' σ z L' _ _ => ?_, fun v d M' G' H' z L' _ r' => z.elim, fun _ _ _ _ _ x => x.elim, fun _ _ _ _ _ x => x.elim⟩ L (slots_start rp)
  · obtain ⟨rfl, hd, rfl⟩ := z; exact kE _ _ G' H' L' (k2 hd)
  · obtain ⟨hd, nn, hp⟩ := z; exact kQ .non .non _ G' H' (Lay.perm L' hp) .non (k1 hd nn)
end
end
end Ask
/-! Slices, sums, enumerate, comprehensions with a test. -/
namespace Ask
open PySem L2
section
variable {K : PySem.W.Frag} {B : Fr} {s : Sl} {M M' : Ms} {Φ : Dt → Ms → Prop} {x : Dt} {ds : List Dt} {te : TE} {t : TA}
/-! ### slices -/
theorem cut_rep {G : Hp} {vs : List V} {ds : List Dt} (r : RepAll K G vs ds) (lo hi : Option Int) : RepAll K G (cutV vs lo hi) ((ds.drop (HT.sIx ds.length 0 lo)).take (HT.sIx ds.length ds.length hi - HT.sIx ds.length 0 lo)) := by
  unfold cutV; rw [r.len]; exact (r.drop _).take _
theorem sl_core {es : List Dt} {lo hi : Option Int} (h : SeqD M ds x) (he : (ds.drop (HT.sIx ds.length 0 lo)).take (HT.sIx ds.length ds.length hi - HT.sIx ds.length 0 lo) = es) (k : ∀ p, p ∉ B.T → (Fz B Φ (.ref p) (.one p (.lst es) :: M) ∨ Φ (.ref p) (.one p (.lst es) :: M))) : OpS K B (rSlL K) x lo hi M Φ := fun G H v Q L r q => by
  obtain ⟨a, vs, rfl, e, t⟩ := h.at L r
  refine ⟨a, vs, rfl, e, fun l hl => lc_end (fun z => L.freshM hl (L.tin l z)) ⟨G, L.laidM (c := .lst es) hl ⟨_, upd_same, ?_⟩, Ex.refl G⟩ (k l fun z => L.freshM hl (L.tin l z)) q⟩
  rw [← he]; exact cut_rep t lo hi
theorem cut_to {i : Int} (h : 0 ≤ i) : (ds.drop (HT.sIx ds.length 0 none)).take (HT.sIx ds.length ds.length (some i) - HT.sIx ds.length 0 none) = ds.take i.toNat := by
  show (ds.drop 0).take ((if i < 0 then (i + (ds.length : Int)).toNat else min i.toNat ds.length) - 0) = _
  rw [if_neg (by omega), List.drop_zero, Nat.sub_zero]
  by_cases hl : i.toNat ≤ ds.length
  · rw [Nat.min_eq_left hl]
  · rw [Nat.min_eq_right (by omega), List.take_of_length_le (Nat.le_refl _), List.take_of_length_le (by omega)]
theorem cut_from {i : Int} (h : 0 ≤ i) : (ds.drop (HT.sIx ds.length 0 (some i))).take (HT.sIx ds.length ds.length none - HT.sIx ds.length 0 (some i)) = ds.drop i.toNat := by
  have e : HT.sIx ds.length 0 (some i) = min i.toNat ds.length := if_neg (by omega)
  have e2 : HT.sIx ds.length ds.length none = ds.length := rfl
  rw [e, e2, List.take_of_length_le (by rw [List.length_drop]; omega)]
  by_cases hl : i.toNat ≤ ds.length
  · rw [Nat.min_eq_left hl]
  · rw [Nat.min_eq_right (by omega), List.drop_of_length_le (Nat.le_refl _), List.drop_of_length_le (by omega)]
theorem cut_but : (ds.drop (HT.sIx ds.length 0 none)).take (HT.sIx ds.length ds.length (some (-1)) - HT.sIx ds.length 0 none) = ds.dropLast := by
  have e : HT.sIx ds.length ds.length (some (-1)) = ((-1 : Int) + (ds.length : Int)).toNat := by unfold HT.sIx; simp
  have e2 : HT.sIx ds.length 0 none = 0 := rfl
  rw [e, e2, List.drop_zero, Nat.sub_zero, List.dropLast_eq_take]
  congr 1; omega
instance s_slTo {i : Int} [l : SeqC M x ds] : Stp (OpS K B (rSlL K) x none (some i) M Φ) (Pre (0 ≤ i) (Φ (.lst (ds.take i.toNat)) M)) := ⟨fun k => sl_core l.h (cut_to k.1) (fz k.2)⟩
instance s_slFrom {i : Int} [l : SeqC M x ds] : Stp (OpS K B (rSlL K) x (some i) none M Φ) (Pre (0 ≤ i) (Φ (.lst (ds.drop i.toNat)) M)) := ⟨fun k => sl_core l.h (cut_from k.1) (fz k.2)⟩
instance s_slBut [l : SeqC M x ds] : Stp (OpS K B (rSlL K) x none (some (-1)) M Φ) (Φ (.lst ds.dropLast) M) := ⟨fun k => sl_core l.h cut_but (fz k)⟩
section
variable {α : Type} {f : α → Dt} {l : List α} {i : Int}
instance (priority := high) s_slToM [h : SeqC M x (l.map f)] : Stp (OpS K B (rSlL K) x none (some i) M Φ) (Pre (0 ≤ i) (Φ (.lst ((l.take i.toNat).map f)) M)) := ⟨fun k => sl_core h.h ((cut_to k.1).trans (List.map_take ..).symm) (fz k.2)⟩
instance (priority := high) s_slFromM [h : SeqC M x (l.map f)] : Stp (OpS K B (rSlL K) x (some i) none M Φ) (Pre (0 ≤ i) (Φ (.lst ((l.drop i.toNat).map f)) M)) := ⟨fun k => sl_core h.h ((cut_from k.1).trans (List.map_drop ..).symm) (fz k.2)⟩
instance (priority := high) s_slButM [h : SeqC M x (l.map f)] : Stp (OpS K B (rSlL K) x none (some (-1)) M Φ) (Φ (.lst (l.dropLast.map f)) M) := ⟨fun k => sl_core h.h (cut_but.trans (by rw [List.dropLast_eq_take, List.dropLast_eq_take, List.length_map, List.map_take])) (fz k)⟩
end
/-! ### sum, max -/
instance s_sum {l : List Int} [h : SeqC M x (l.map Dt.int)] : Stp (OpN K B (rSum K) [x] M Φ) (Φ (.int l.sum) M) := ⟨fun k G H vs Q L rs q => by
  cases rs with | cons r1 r0 =>
    cases r0
    obtain ⟨a, ws, rfl, e, t⟩ := h.h.at L r1
    have ew := t.ints
    subst ew
    exact ⟨a, l, rfl, e, q _ _ M G H L (Ex.refl G) (.int _) k⟩⟩
/-! ### for i, x in enumerate(xs) -/
def ForE (K : PySem.W.Frag) (B : Fr) (x : Dt) (g1 g2 : TG) (tb : TS) (P : Post) (s : Sl) (M1 : Ms) : Prop := ∃ ds, ∃ I : Nat → Sl → Ms → Prop, (I 0 s M1 ∧ ∀ i s' M', I i s' M' → SeqD M' ds x) ∧
  (∀ (i : Nat) d s' M', ds[i]? = some d → I i s' M' → WPg K B g1 (.int (i : Int)) s' M' fun s2 M2 => WPg K B g2 d s2 M2 fun s3 M3 => WPs K B tb ⟨I (i + 1), P.rt, P.nx, I (i + 1)⟩ s3 M3) ∧ (∀ s' M', I ds.length s' M' → P.nx s' M')
theorem w_forE {P : Post} {g1 g2 : TG} {tb : TS} (h : EvA K B t s M fun xs M1 => ∃ x, xs = [x] ∧ ForE K B x g1 g2 tb P s M1) : WPs K B (tFor (iEnum K t) (gTup K 2 (gCons g1 (gCons g2 gNil))) tb) P s M := fun D G H σ ok L S =>
  h G H σ _ L S fun vs xs M1 G1 H1 L1 e1 r1 h' => by
    obtain ⟨x, rfl, ds, I, ⟨h0, hst⟩, hs, hd⟩ := h'
    cases r1 with | cons rx r0 =>
    cases r0
    obtain ⟨a, us, rfl, hl, _⟩ := (hst 0 _ _ h0).at L1 rx
    have ok1 := ok.mono e1
    refine ⟨a, us, rfl, hl, fun i m σ H => m = ds.length - i ∧ i ≤ ds.length ∧ Pvs K B G1 (I i) σ H, ⟨_, rfl, Nat.zero_le _, s, M1, G1, L1, Ex.refl _, S.mono e1, h0⟩, ?_⟩
    rintro i m σ2 H2 ⟨rfl, hi, s2, M2, G2, L2, x2, S2, i2⟩
    obtain ⟨a', vs2, e, hl2, t2⟩ := (hst i _ _ i2).at L2 (rx.mono x2)
    cases e
    by_cases q : i < ds.length
    · obtain ⟨v, hv, rv⟩ := t2.get (show ds[i]? = some ds[i] by simp [q])
      refine .inr ⟨⟨vs2, v, hl2, hv⟩, Pvs K B G1 (I (i + 1)), fun σ' H' p => ⟨ds.length - (i + 1), by omega, rfl, q, p⟩, fun y H' hy => ?_⟩
      obtain ⟨T, z, rfl, hT, rfl, hz⟩ := hy
      have ey : z = v := Option.some.inj ((hz vs2 hl2).symm.trans hv)
      subst ey
      have L3 := L2.laid (o := .tup [.int (i : Nat), z]) hT
      have x3 := Ex.new (o := HO.tup [.int (i : Nat), z]) (L2.freshG hT)
      refine ⟨T, [.int (i : Nat), z], rfl, SqT.of upd_same, rfl, .int (i : Nat), [z], rfl, ?_⟩
      refine hs i ds[i] s2 M2 (by simp [q]) i2 _ _ σ2 _ _ L3 (S2.mono x3) (.int _) fun s4 M4 G4 H4 σ4 L4 e4 S4 k => ⟨z, [], rfl, ?_⟩
      exact k G4 H4 σ4 _ _ L4 S4 ((rv.mono x3).mono e4) fun s5 M5 G5 H5 σ5 L5 e5 S5 k5 => ⟨rfl, k5 _ G5 H5 σ5 (ends_in ok1 (((x2.trans x3).trans e4).trans e5)) L5 S5⟩
    · have e : i = ds.length := by omega
      subst e
      exact .inl ⟨⟨vs2, hl2, by rw [t2.len]; exact Nat.le_refl _⟩, ok1.1 s2 M2 G2 H2 σ2 (hd s2 M2 i2) L2 x2 S2⟩
section
variable {g1 g2 : TG} {tb : TS} {nx bk ct : Sl → Ms → Prop} {rt : Dt → Ms → Prop} {α : Type} {l : List α} {f : α → Dt}
instance s_forE : Stp (WPs K B (tFor (iEnum K t) (gTup K 2 (gCons g1 (gCons g2 gNil))) tb) ⟨nx, rt, bk, ct⟩ s M) (EvA K B t s M fun xs M1 => ∃ x, xs = [x] ∧ ForE K B x g1 g2 tb ⟨nx, rt, bk, ct⟩ s M1) := ⟨w_forE⟩
instance s_ex_one {P : Dt → Prop} {d : Dt} : Stp (∃ x, [d] = [x] ∧ P x) (P d) := ⟨fun k => ⟨d, rfl, k⟩⟩
def ForE2 (K : PySem.W.Frag) (B : Fr) (ds : List Dt) (g1 g2 : TG) (tb : TS) (P : Post) (s : Sl) (M1 : Ms) : Prop := ∃ I : Nat → Sl → Ms → Prop, I 0 s M1 ∧
  (∀ (i : Nat) d s' M', ds[i]? = some d → I i s' M' → WPg K B g1 (.int (i : Int)) s' M' fun s2 M2 => WPg K B g2 d s2 M2 fun s3 M3 => WPs K B tb ⟨I (i + 1), P.rt, P.nx, I (i + 1)⟩ s3 M3) ∧ (∀ s' M', I ds.length s' M' → P.nx s' M')
instance s_forE2 [h : ImmS x ds] : Stp (ForE K B x g1 g2 tb ⟨nx, rt, bk, ct⟩ s M) (ForE2 K B ds g1 g2 tb ⟨nx, rt, bk, ct⟩ s M) := ⟨fun ⟨I, h0, hs, hd⟩ => ⟨ds, I, ⟨h0, fun _ _ _ _ => h.h _⟩, hs, hd⟩⟩
theorem forE_i (I : Nat → Sl → Ms → Prop) (h0 : I 0 s M) (hs : ∀ (i : Nat) a s' M', l[i]? = some a → I i s' M' → WPg K B g1 (.int (i : Int)) s' M' fun s2 M2 => WPg K B g2 (f a) s2 M2 fun s3 M3 => WPs K B tb ⟨I (i + 1), rt, nx, I (i + 1)⟩ s3 M3) (hd : ∀ s' M', I l.length s' M' → nx s' M') :
    ForE2 K B (l.map f) g1 g2 tb ⟨nx, rt, bk, ct⟩ s M := ⟨I, h0, fun i d s' M' hd' hI => by
  obtain ⟨a, ha, rfl⟩ := of_get_map hd'
  exact hs i a s' M' ha hI, fun s' M' h => hd s' M' (by rwa [List.length_map] at h)⟩
end
/-! ### [.. for x in xs if ..] -/
def LcF (K : PySem.W.Frag) (B : Fr) (tt : TT) (te : TE) (s : Sl) (vs : List Nat) (j : Nat) (ds : List Dt) (M1 : Ms) (fin : List Dt → Prop) : Prop := j ∈ vs ∧ ∃ acc : Nat → List Dt, acc 0 = [] ∧ ds.length < 16777216 ∧ (∀ i, i ≤ ds.length → (acc i).length ≤ i) ∧
  (∀ (i : Nat) d, ds[i]? = some d → LcTurn K B tt te ((wipeS s vs).set j (some d)) M1 (acc i) (acc (i + 1))) ∧ fin (acc ds.length)
theorem lcF_lst {tt : TT} {vs : List Nat} {j : Nat} {fin : List Dt → Prop} {α β : Type} {l : List α} {f : α → Dt} (f' : β → Dt) (g : α → β) (p : α → Bool) (hj : j ∈ vs) (hz : l.length < 16777216)
    (ht : ∀ a q acc, a ∈ l → q ∉ B.T → EvT K B tt ((wipeS s vs).set j (some (f a))) (.one q (.lst acc) :: M) fun b M2 => M2 = .one q (.lst acc) :: M ∧ b = p a)
    (hs : ∀ a q acc, a ∈ l → p a = true → q ∉ B.T → EvW K B te ((wipeS s vs).set j (some (f a))) (.one q (.lst acc) :: M) fun e M3 => M3 = .one q (.lst acc) :: M ∧ f' (g a) = e)
    (k : fin (((l.filter p).map g).map f')) : LcF K B tt te s vs j (l.map f) M fin := by
  refine ⟨hj, fun i => (((l.take i).filter p).map g).map f', rfl, by simpa using hz, fun i hi => ?_, fun i d hd => ?_, by simpa using k⟩
  · simp only [List.length_map]
    exact Nat.le_trans (List.length_filter_le _ _) (by rw [List.length_take]; exact Nat.min_le_left _ _)
  · obtain ⟨a, ha, rfl⟩ := of_get_map hd
    have hm := List.mem_of_getElem? ha
    refine fun q hq => t_mono (ht a q _ hm hq) fun b M2 ⟨e1, e2⟩ => ?_
    have hst : (l.take (i + 1)).filter p = (l.take i).filter p ++ (if p a = true then [a] else []) := by
      rw [take_snoc ha, List.filter_append]; congr 1
      by_cases h : p a = true
      · rw [if_pos h, List.filter_cons_of_pos h]; rfl
      · rw [if_neg h, List.filter_cons_of_neg h]; rfl
    refine ⟨e1, fun hb => ?_, fun hb => ?_⟩
    · have hp : p a = true := by rw [← e2]; exact hb
      refine e_mono (hs a q _ hm hp hq) fun e M3 ⟨e3, e4⟩ => ⟨e3, ?_⟩
      show (((l.take (i + 1)).filter p).map g).map f' = (((l.take i).filter p).map g).map f' ++ [e]
      rw [hst, if_pos hp, List.map_append, List.map_append, ← e4]; rfl
    · have hp : ¬ p a = true := by rw [← e2, hb]; exact Bool.false_ne_true
      show (((l.take (i + 1)).filter p).map g).map f' = (((l.take i).filter p).map g).map f'
      rw [hst, if_neg hp, List.append_nil]
instance (priority := low) s_lcF {tl : TE} {tt : TT} {vs : List Nat} {j : Nat} : Stp (EvW K B (tLc (iList K tl) (gName j) tt te vs) s M Φ) (EvW K B tl s M fun x M1 => ∃ ds, SeqD M1 ds x ∧ LcF K B tt te s vs j ds M1 fun es => Φ (.lst es) M1) := ⟨fun h => e_lcL (e_mono h fun x M1 q => by
  obtain ⟨ds, hs, hj, acc, h0, hz, hl, ht, k⟩ := q
  exact ⟨ds, hs, hj, acc, h0, fun i hi => by have := hl i hi; omega, fun i d hi hd => ht i d hd, fun p hp => lc_frz hp k⟩)⟩
end
end Ask
/-! One list of whole numbers ahead of another. -/
namespace Ask
open PySem L2
def lexB : List Int → List Int → Bool
  | [], [] => false
  | [], _ :: _ => true
  | _ :: _, [] => false
  | x :: xs, y :: ys => if x = y then lexB xs ys else decide (x < y)
theorem lexB_list : ∀ a b : List Int, PySem.W.listLt a b = lexB a b
  | [], [] => rfl
  | [], _ :: _ => rfl
  | _ :: _, [] => rfl
  | x :: xs, y :: ys => by rw [PySem.W.listLt, lexB, lexB_list xs ys]; rfl
theorem toPys_ints : ∀ a : List Int, toPy (dInts a) = PySem.W.Datum.toD a
  | a => by
    show PyData.list (toPys (a.map Dt.int)) = PyData.list (a.map PySem.W.Datum.toD)
    congr 1
    induction a with
    | nil => rfl
    | cons x xs ih => show toPy (.int x) :: toPys (xs.map Dt.int) = _; rw [ih]; rfl
section
variable {X : Cx}
def rLtL (K : PySem.W.Frag) : R2 := fun x y H Q => ∃ a b : List Int, Dp K H x (PySem.W.Datum.toD a) ∧ Dp K H y (PySem.W.Datum.toD b) ∧ Q (.bl (lexB a b)) H
def rGtL (K : PySem.W.Frag) : R2 := fun x y H Q => ∃ a b : List Int, Dp K H x (PySem.W.Datum.toD a) ∧ Dp K H y (PySem.W.Datum.toD b) ∧ Q (.bl (lexB b a)) H
theorem ok_ltL {K : PySem.W.Frag} (hk : X.K = K) (hu : X.A.units + 64 < cLine) : OpR X (compareOp .Lt) (rLtL K) := hk ▸ by
  intro pins s σ H x y v u Q I rx ry h
  obtain ⟨a, b, hd, he, q⟩ := h
  obtain ⟨as, r1⟩ := Dp.reads I _ x v hd rx
  obtain ⟨bs, r2⟩ := Dp.reads I _ y u he ry
  exact PySem.W.lt_datum ⟨as, r1⟩ ⟨bs, r2⟩ (Nat.lt_of_le_of_lt (Nat.add_le_add_left (show PySem.W.Datum.depth (List Int) ≤ 64 by decide) _) hu) ⟨.bl _, H, I, rfl, by rw [show PySem.W.DatumOrd.lt a b = lexB a b from lexB_list a b]; exact q⟩
theorem ok_gtL {K : PySem.W.Frag} (hk : X.K = K) (hu : X.A.units + 64 < cLine) : OpR X (compareOp .Gt) (rGtL K) := hk ▸ by
  intro pins s σ H x y v u Q I rx ry h
  obtain ⟨a, b, hd, he, q⟩ := h
  obtain ⟨as, r1⟩ := Dp.reads I _ x v hd rx
  obtain ⟨bs, r2⟩ := Dp.reads I _ y u he ry
  exact PySem.W.gt_datum ⟨as, r1⟩ ⟨bs, r2⟩ (Nat.lt_of_le_of_lt (Nat.add_le_add_left (show PySem.W.Datum.depth (List Int) ≤ 64 by decide) _) hu) ⟨.bl _, H, I, rfl, by rw [show PySem.W.DatumOrd.lt b a = lexB b a from lexB_list b a]; exact q⟩
end
section
variable {K : PySem.W.Frag} {B : Fr} {M : Ms} {Φ : Dt → Ms → Prop} {x y : Dt} {a b : List Int}
instance s_ltInts [h : LstC M x (a.map Dt.int)] [k : LstC M y (b.map Dt.int)] : Stp (Op2 K B (rLtL K) x y M Φ) (Φ (.bl (lexB a b)) M) := ⟨fun q G H v w Q L r1 r2 z =>
  ⟨a, b, toPys_ints a ▸ (vals_enc enc_int h.h).dp L r1, toPys_ints b ▸ (vals_enc enc_int k.h).dp L r2, z _ _ M G H L (Ex.refl G) (.bl _) q⟩⟩
instance s_gtInts [h : LstC M x (a.map Dt.int)] [k : LstC M y (b.map Dt.int)] : Stp (Op2 K B (rGtL K) x y M Φ) (Φ (.bl (lexB b a)) M) := ⟨fun q G H v w Q L r1 r2 z =>
  ⟨a, b, toPys_ints a ▸ (vals_enc enc_int h.h).dp L r1, toPys_ints b ▸ (vals_enc enc_int k.h).dp L r2, z _ _ M G H L (Ex.refl G) (.bl _) q⟩⟩
end
end Ask
/-! Numbers in the order of the words. -/
namespace Ask
section
variable {ways : List (List Int)} {lamps : List Bool} {doors : Int}
theorem rnk_lt (h : HouseOk doors ways lamps) : ∀ {w v : List Int} {r : Int}, 0 ≤ r ∧ r < (ways.length : Int) → WordOk doors w → WordOk doors v → w.length = v.length → litOf ways lamps r w = true → litOf ways lamps r v = true →
    rnk ways lamps r w < rnk ways lamps r v → lexB w v = true
  | [], [], r, hr, _, _, _, _, _, hlt => by rw [rnk_nil] at hlt; omega
  | [], _ :: _, r, hr, _, _, hl, _, _, hlt => by simp at hl
  | _ :: _, [], r, hr, _, _, hl, _, _, hlt => by simp at hl
  | d :: w, e :: v, r, hr, hw, hv, hl, h1, h2, hlt => by
    have hd := hw d (by simp)
    have he := hv e (by simp)
    have hl' : w.length = v.length := by simpa using hl
    have hrl := row_len h hr
    rw [rnk_cons, rnk_cons, hl'] at hlt
    unfold lexB
    by_cases q : d = e
    · subst q
      rw [if_pos rfl]
      exact rnk_lt h (step_in h hr hd) (fun x hx => hw x (by simp [hx])) (fun x hx => hv x (by simp [hx])) hl' h1 h2 (by omega)
    · rw [if_neg q, decide_eq_true_eq]
      have hw1 := rnk_in h (w := w) (step_in h hr hd) (fun x hx => hw x (by simp [hx])) h1
      have hv1 := rnk_in h (w := v) (step_in h hr he) (fun x hx => hv x (by simp [hx])) h2
      by_cases q2 : d < e
      · exact q2
      · have hle := sum_take_le (cs := (gt ways r).map (cnt ways lamps v.length)) (fun x hx => by obtain ⟨y, _, rfl⟩ := List.mem_map.mp hx; exact cnt_nonneg _ _) (i := e.toNat + 1) (j := d.toNat) (by omega)
        have hg := cnt_get (ways := ways) (lamps := lamps) (k := v.length) (r := r) (d := e.toNat) (by omega)
        rw [show ((e.toNat : Nat) : Int) = e by omega] at hg
        rw [List.take_add_one, hg] at hle
        simp only [Option.toList_some, List.sum_append, List.sum_cons, List.sum_nil] at hle
        rw [← List.map_take, ← List.map_take] at hle
        omega
end
end Ask
/-! Words in order, shorter ones first; the least words of a house. -/
namespace Ask
theorem lexB_irr : ∀ a : List Int, lexB a a = false
  | [] => rfl
  | x :: xs => by rw [lexB, if_pos rfl, lexB_irr xs]
theorem lexB_asymm : ∀ {a b : List Int}, lexB a b = true → lexB b a = false
  | [], [], h => by cases h
  | [], _ :: _, _ => rfl
  | _ :: _, [], h => by cases h
  | x :: xs, y :: ys, h => by
    unfold lexB at h ⊢
    by_cases q : x = y
    · rw [if_pos q] at h; rw [if_pos q.symm]; exact lexB_asymm h
    · rw [if_neg q, decide_eq_true_eq] at h; rw [if_neg (Ne.symm q), decide_eq_false_iff_not]; omega
theorem lexB_trans : ∀ {a b c : List Int}, lexB a b = true → lexB b c = true → lexB a c = true
  | [], [], _, h, _ => by cases h
  | [], _ :: _, [], _, h => by cases h
  | [], _ :: _, _ :: _, _, _ => rfl
  | _ :: _, [], _, h, _ => by cases h
  | _ :: _, _ :: _, [], _, h => by cases h
  | x :: xs, y :: ys, z :: zs, h, k => by
    unfold lexB at h k ⊢
    by_cases q : x = y
    · rw [if_pos q] at h
      by_cases r : y = z
      · rw [if_pos r] at k; rw [if_pos (q.trans r)]; exact lexB_trans h k
      · rw [if_neg r] at k; subst q; rw [if_neg r]; exact k
    · rw [if_neg q, decide_eq_true_eq] at h
      by_cases r : y = z
      · subst r; rw [if_neg q, decide_eq_true_eq]; exact h
      · rw [if_neg r, decide_eq_true_eq] at k; rw [if_neg (by omega), decide_eq_true_eq]; omega
theorem lexB_snoc : ∀ {a b : List Int} {x y : Int}, a.length = b.length → lexB a b = true → lexB (a ++ [x]) (b ++ [y]) = true
  | [], [], _, _, _, h => by cases h
  | [], _ :: _, _, _, h, _ => by simp at h
  | _ :: _, [], _, _, h, _ => by simp at h
  | p :: a, q :: b, x, y, h, k => by
    rw [List.cons_append, List.cons_append]
    unfold lexB at k ⊢
    by_cases e : p = q
    · rw [if_pos e] at k ⊢; exact lexB_snoc (by simpa using h) k
    · rw [if_neg e] at k ⊢; exact k
theorem lexB_last : ∀ {a : List Int} {x y : Int}, x < y → lexB (a ++ [x]) (a ++ [y]) = true
  | [], x, y, h => by rw [List.nil_append, List.nil_append, lexB, if_neg (by omega), decide_eq_true_eq]; exact h
  | p :: a, x, y, h => by rw [List.cons_append, List.cons_append, lexB, if_pos rfl]; exact lexB_last h
/-- one word ahead of another -/
def sltB (u v : List Int) : Bool := if u.length = v.length then lexB u v else decide (u.length < v.length)
theorem sltB_irr (a : List Int) : sltB a a = false := by unfold sltB; rw [if_pos rfl, lexB_irr]
theorem sltB_asymm {a b : List Int} (h : sltB a b = true) : sltB b a = false := by
  unfold sltB at *
  by_cases q : a.length = b.length
  · rw [if_pos q] at h; rw [if_pos q.symm]; exact lexB_asymm h
  · rw [if_neg q, decide_eq_true_eq] at h; rw [if_neg (Ne.symm q), decide_eq_false_iff_not]; omega
theorem sltB_trans {a b c : List Int} (h : sltB a b = true) (k : sltB b c = true) : sltB a c = true := by
  unfold sltB at *
  by_cases q : a.length = b.length
  · rw [if_pos q] at h
    by_cases r : b.length = c.length
    · rw [if_pos r] at k; rw [if_pos (q.trans r)]; exact lexB_trans h k
    · rw [if_neg r] at k; rw [if_neg (by omega), decide_eq_true_eq]; rw [decide_eq_true_eq] at k; omega
  · rw [if_neg q, decide_eq_true_eq] at h
    by_cases r : b.length = c.length
    · rw [if_neg (by omega), decide_eq_true_eq]; omega
    · rw [if_neg r, decide_eq_true_eq] at k; rw [if_neg (by omega), decide_eq_true_eq]; omega
theorem sltB_snoc {a b : List Int} {x y : Int} (h : sltB a b = true) : sltB (a ++ [x]) (b ++ [y]) = true := by
  unfold sltB at *
  simp only [List.length_append, List.length_cons, List.length_nil]
  by_cases q : a.length = b.length
  · rw [if_pos q] at h; rw [if_pos (by omega)]; exact lexB_snoc q h
  · rw [if_neg q, decide_eq_true_eq] at h; rw [if_neg (by omega), decide_eq_true_eq]; omega
theorem sltB_last {a : List Int} {x y : Int} (h : x < y) : sltB (a ++ [x]) (a ++ [y]) = true := by
  unfold sltB; rw [if_pos (by simp)]; exact lexB_last h
theorem sltB_self {a : List Int} {x : Int} : sltB a (a ++ [x]) = true := by
  unfold sltB; rw [if_neg (by simp), decide_eq_true_eq]; simp
/-! ### the search -/
section
variable (ways : List (List Int))
def pushW (ws : List (List Int)) (w : List Int) (d : Nat) : List (List Int) :=
  if walkOf ways 0 (w ++ [(d : Int)]) ∈ ws.map (walkOf ways 0) then ws else ws ++ [w ++ [(d : Int)]]
def pushesW (ws : List (List Int)) (w : List Int) (n : Nat) : List (List Int) := (List.range n).foldl (fun ws d => pushW ways ws w d) ws
theorem pushesW_succ {ws : List (List Int)} {w : List Int} {n : Nat} : pushesW ways ws w (n + 1) = pushW ways (pushesW ways ws w n) w n := by
  unfold pushesW; rw [List.range_succ, List.foldl_append]; rfl
def lwS (n : Nat) : Nat → List (List Int) → Nat → List (List Int)
  | 0, ws, _ => ws
  | f + 1, ws, k => match ws[k]? with
    | none => ws
    | some w => lwS n f (pushesW ways ws w n) (k + 1)
def leastW (n : Nat) : List (List Int) := lwS ways n (ways.length + 1) [[]] 0
structure InvW (n : Nat) (ws : List (List Int)) : Prop where
  nd : (ws.map (walkOf ways 0)).Nodup
  wd : ∀ w ∈ ws, WordOk n w ∧ w.length < ws.length
  h0 : ws[0]? = some []
  so : ws.Pairwise fun a b => sltB a b = true
/-- behind a door of a word -/
def Beh (ws : List (List Int)) (v : List Int) : Prop := ∃ w ∈ ws, walkOf ways 0 w = walkOf ways 0 v ∧ (w = v ∨ sltB w v = true)
end
section
variable {ways : List (List Int)} {lamps : List Bool} {n : Nat} {ws : List (List Int)} {w : List Int}
theorem InvW.start : InvW ways n [[]] := ⟨by simp, fun w hw => by
  rw [List.mem_singleton.mp hw]; exact ⟨fun d hd => by simp at hd, by simp⟩, rfl, by simp⟩
theorem InvW.small (h : InvW ways n ws) (k : HouseOk n ways lamps) : ws.length ≤ ways.length := by
  have := nodup_sub_length (m := (List.range ways.length).map fun a : Nat => (a : Int)) h.nd (fun p hp => by
    obtain ⟨w, hw, rfl⟩ := List.mem_map.mp hp
    have := walk_in k (room0 k) (h.wd w hw).1
    refine List.mem_map.mpr ⟨(walkOf ways 0 w).toNat, List.mem_range.mpr (by omega), by omega⟩)
  simpa using this
theorem pushW_new {d : Nat} (h : walkOf ways 0 (w ++ [(d : Int)]) ∉ ws.map (walkOf ways 0)) : pushW ways ws w d = ws ++ [w ++ [(d : Int)]] := if_neg h
theorem pushW_old {d : Nat} (h : walkOf ways 0 (w ++ [(d : Int)]) ∈ ws.map (walkOf ways 0)) : pushW ways ws w d = ws := if_pos h
theorem pushW_sub {d : Nat} {x : List Int} (h : x ∈ ws) : x ∈ pushW ways ws w d := by unfold pushW; split <;> simp [h]
theorem pushesW_sub {x : List Int} (h : x ∈ ws) : ∀ d, x ∈ pushesW ways ws w d
  | 0 => h
  | d + 1 => by rw [pushesW_succ]; exact pushW_sub (pushesW_sub h d)
theorem pushW_get {d k : Nat} {x : List Int} (h : ws[k]? = some x) : (pushW ways ws w d)[k]? = some x := by
  unfold pushW; split
  · exact h
  · rw [List.getElem?_append_left (List.getElem?_eq_some_iff.mp h).1]; exact h
theorem pushesW_get {k : Nat} {x : List Int} (h : ws[k]? = some x) : ∀ d, (pushesW ways ws w d)[k]? = some x
  | 0 => h
  | d + 1 => by rw [pushesW_succ]; exact pushW_get (pushesW_get h d)
/-- all of it is ahead of a word -/
def Ahd (ws : List (List Int)) (v : List Int) : Prop := ∀ w ∈ ws, sltB w v = true
theorem InvW.push (h : InvW ways n ws) (hw : w ∈ ws) {d : Nat} (hd : d < n) (hb : Ahd ws (w ++ [(d : Int)])) : InvW ways n (pushW ways ws w d) := by
  unfold pushW
  split
  · exact h
  · rename_i hn
    obtain ⟨g1, g2⟩ := h.wd w hw
    refine ⟨?_, fun x hx => ?_, ?_, ?_⟩
    · rw [List.map_append]
      refine List.nodup_append.mpr ⟨h.nd, by simp, fun a ha b hb => ?_⟩
      intro e'
      have : b = walkOf ways 0 (w ++ [(d : Int)]) := by simpa using hb
      exact hn (by rw [← this, ← e']; exact ha)
    · rcases List.mem_append.mp hx with q | q
      · obtain ⟨a, b⟩ := h.wd x q
        exact ⟨a, by rw [List.length_append]; omega⟩
      · rw [List.mem_singleton.mp q]
        refine ⟨fun y hy => ?_, by simp; omega⟩
        rcases List.mem_append.mp hy with z | z
        · exact g1 y z
        · rw [List.mem_singleton.mp z]; exact ⟨by omega, by omega⟩
    · rw [List.getElem?_append_left (List.getElem?_eq_some_iff.mp h.h0).1]; exact h.h0
    · exact List.pairwise_append.mpr ⟨h.so, by simp, fun a ha b hb' => by rw [List.mem_singleton.mp hb']; exact hb a ha⟩
theorem Ahd.push {d : Nat} (hb : Ahd ws (w ++ [(d : Int)])) : Ahd (pushW ways ws w d) (w ++ [((d + 1 : Nat) : Int)]) := fun x hx => by
  have hl : sltB (w ++ [(d : Int)]) (w ++ [((d + 1 : Nat) : Int)]) = true := sltB_last (by omega)
  unfold pushW at hx
  split at hx
  · exact sltB_trans (hb x hx) hl
  · rcases List.mem_append.mp hx with q | q
    · exact sltB_trans (hb x q) hl
    · rw [List.mem_singleton.mp q]; exact hl
theorem beh_push {d : Nat} (hb : Ahd ws (w ++ [(d : Int)])) : Beh ways (pushW ways ws w d) (w ++ [(d : Int)]) := by
  by_cases h : walkOf ways 0 (w ++ [(d : Int)]) ∈ ws.map (walkOf ways 0)
  · rw [pushW_old h]
    obtain ⟨x, hx, e⟩ := List.mem_map.mp h
    exact ⟨x, hx, e, .inr (hb x hx)⟩
  · rw [pushW_new h]
    exact ⟨_, by simp, rfl, .inl rfl⟩
theorem Beh.sub {vs : List (List Int)} {v : List Int} (h : Beh ways ws v) (hs : ∀ x ∈ ws, x ∈ vs) : Beh ways vs v := by
  obtain ⟨x, hx, e⟩ := h
  exact ⟨x, hs x hx, e⟩
theorem pushes_all (h : InvW ways n ws) (hw : w ∈ ws) (hb : Ahd ws (w ++ [0])) : ∀ d, d ≤ n → InvW ways n (pushesW ways ws w d) ∧ Ahd (pushesW ways ws w d) (w ++ [(d : Int)]) ∧ ∀ e, e < d → Beh ways (pushesW ways ws w d) (w ++ [(e : Int)])
  | 0, _ => ⟨h, hb, fun e he => by omega⟩
  | d + 1, hd => by
    obtain ⟨a, b, c⟩ := pushes_all h hw hb d (by omega)
    rw [pushesW_succ]
    refine ⟨a.push (pushesW_sub hw d) (by omega) b, b.push, fun e he => ?_⟩
    by_cases q : e = d
    · rw [q]; exact beh_push b
    · exact (c e (by omega)).sub fun x => pushW_sub
/-- what the search has -/
structure LeastOk (ways : List (List Int)) (n : Nat) (ws : List (List Int)) : Prop extends InvW ways n ws where
  beh : ∀ w ∈ ws, ∀ d : Nat, d < n → Beh ways ws (w ++ [(d : Int)])
structure Srch (ways : List (List Int)) (n : Nat) (ws : List (List Int)) (k : Nat) : Prop extends InvW ways n ws where
  ah : ∀ w, ws[k]? = some w → Ahd ws (w ++ [0])
  bh : ∀ i w, i < k → ws[i]? = some w → ∀ d : Nat, d < n → Beh ways ws (w ++ [(d : Int)])
  le : k ≤ ws.length
theorem Srch.start : Srch ways n [[]] 0 := ⟨InvW.start, fun w hw v hv => by
  cases hw; rw [List.mem_singleton.mp hv]; exact sltB_self, fun i w hi => by omega, by simp⟩
theorem Srch.next {k : Nat} (h : Srch ways n ws k) (hw : ws[k]? = some w) : Srch ways n (pushesW ways ws w n) (k + 1) := by
  obtain ⟨a, b, c⟩ := pushes_all h.toInvW (List.mem_of_getElem? hw) (h.ah w hw) n (Nat.le_refl _)
  have hg := pushesW_get (ways := ways) (w := w) hw n
  have hkl := (List.getElem?_eq_some_iff.mp hg).1
  refine ⟨a, fun v hv x hx => ?_, fun i v hi hv d hd => ?_, by omega⟩
  · have hlt : sltB w v = true := by
      obtain ⟨h1, e1⟩ := List.getElem?_eq_some_iff.mp hg
      obtain ⟨h2, e2⟩ := List.getElem?_eq_some_iff.mp hv
      have := List.pairwise_iff_getElem.mp a.so k (k + 1) h1 h2 (by omega)
      rwa [e1, e2] at this
    exact sltB_trans (b x hx) (sltB_snoc hlt)
  · by_cases q : i = k
    · subst q
      rw [hg] at hv; cases hv
      exact c d hd
    · have hil : i < ws.length := by have := h.le; omega
      have hv' := pushesW_get (ways := ways) (w := w) (List.getElem?_eq_getElem hil) n
      rw [hv'] at hv; cases hv
      exact (h.bh i _ (by omega) (List.getElem?_eq_getElem hil) d hd).sub fun x hx => pushesW_sub hx n
theorem lwS_ok (k' : HouseOk n ways lamps) : ∀ {f : Nat} {ws : List (List Int)} {k : Nat}, Srch ways n ws k → ways.length + 1 ≤ f + k → LeastOk ways n (lwS ways n f ws k)
  | 0, ws, k, h, hf => by
    have := h.toInvW.small k'
    have := h.le
    omega
  | f + 1, ws, k, h, hf => by
    unfold lwS
    cases hw : ws[k]? with
    | none =>
      show LeastOk ways n ws
      refine ⟨h.toInvW, fun w hw' d hd => ?_⟩
      obtain ⟨i, hi, rfl⟩ := List.mem_iff_getElem.mp hw'
      have : ws.length ≤ k := by simpa using hw
      exact h.bh i _ (by omega) (List.getElem?_eq_getElem hi) d hd
    | some w => exact lwS_ok k' (h.next hw) (by omega)
theorem leastW_ok (k : HouseOk n ways lamps) : LeastOk ways n (leastW ways n) := lwS_ok k Srch.start (by omega)
/-- what was met -/
def metW (ways : List (List Int)) (ws : List (List Int)) : List (Int × Bool) := ws.map fun w => (walkOf ways 0 w, true)
theorem lk_mapI {α : Type} {ws : List (List Int)} {g : List Int → Int} {v : List Int → α} {a : Int} : (lk (ws.map fun w => (g w, v w)) a).isSome = decide (a ∈ ws.map g) := by
  unfold lk getK
  rw [Option.isSome_map, List.find?_map, Option.isSome_map, Bool.eq_iff_iff]
  simp only [List.find?_isSome, decide_eq_true_eq, List.mem_map, Function.comp]
theorem ins_mapI {α : Type} {ws : List (List Int)} {g : List Int → Int} {v : List Int → α} {a : Int} {b : α} (h : a ∉ ws.map g) : ins (ws.map fun w => (g w, v w)) a b = (ws.map fun w => (g w, v w)) ++ [(a, b)] := by
  have := lk_mapI (ws := ws) (g := g) (v := v) (a := a)
  rw [decide_eq_false h] at this
  unfold ins putKD
  unfold lk at this
  rw [this]; rfl
theorem lk_metW {a : Int} : (lk (metW ways ws) a).isSome = decide (a ∈ ws.map (walkOf ways 0)) := lk_mapI
theorem ins_metW {v : List Int} (h : walkOf ways 0 v ∉ ws.map (walkOf ways 0)) : ins (metW ways ws) (walkOf ways 0 v) true = metW ways (ws ++ [v]) := by
  unfold metW
  rw [ins_mapI h, List.map_append]; rfl
theorem step_snoc {v : List Int} {d : Int} : stepOf ways (walkOf ways 0 v) d = walkOf ways 0 (v ++ [d]) := (walkOf_snoc ..).symm
/-- each room with its word -/
def metL (ways : List (List Int)) (ws : List (List Int)) : List (Int × List Int) := ws.map fun w => (walkOf ways 0 w, w)
theorem lk_metL {w : List Int} (hn : (ws.map (walkOf ways 0)).Nodup) (hw : w ∈ ws) : lk (metL ways ws) (walkOf ways 0 w) = some w := by
  unfold lk getK metL
  rw [List.find?_map]
  induction ws with
  | nil => simp at hw
  | cons v ws ih =>
    rw [List.map_cons] at hn
    obtain ⟨h1, h2⟩ := List.nodup_cons.mp hn
    by_cases q : walkOf ways 0 v = walkOf ways 0 w
    · rw [List.find?_cons_of_pos (by simpa using q)]
      rcases List.mem_cons.mp hw with rfl | z
      · rfl
      · exact absurd (List.mem_map.mpr ⟨w, z, q.symm⟩) h1
    · rw [List.find?_cons_of_neg (by simpa using q)]
      rcases List.mem_cons.mp hw with rfl | z
      · exact absurd rfl q
      · exact ih h2 z
theorem lk_metL_some {a : Int} : (lk (metL ways ws) a).isSome = decide (a ∈ ws.map (walkOf ways 0)) := lk_mapI
theorem ins_metL {v : List Int} (h : walkOf ways 0 v ∉ ws.map (walkOf ways 0)) : ins (metL ways ws) (walkOf ways 0 v) v = metL ways (ws ++ [v]) := by
  unfold metL
  rw [ins_mapI h, List.map_append]; rfl
end
end Ask
/-! A block of lists that is handed back and stays as it is. -/
namespace Ask
open PySem L2
section
variable {K : PySem.W.Frag} {B : Fr} {s : Sl} {M : Ms} {Φ : Dt → Ms → Prop} {n : Nat} {t : TA} {W : WX} {RM : List Dt → List (List Dt) → Prop}
def FrzB (Φ : Dt → Ms → Prop) (rows : List (List Dt)) (M : Ms) : Prop := Φ (.lst (rows.map Dt.lst)) M
instance s_frzB {ws : List (List Int)} : Stp (FrzB Φ (ws.map fun r => r.map Dt.int) M) (Φ (.lst (ws.map dInts)) M) := ⟨fun k => by unfold FrzB; rw [List.map_map]; exact k⟩
def FzD (K : PySem.W.Frag) (B : Fr) (Φ : Dt → Ms → Prop) (d : Dt) (M2 : Ms) : Prop := ∃ p ps rows M1, p ∉ B.T ∧ (∀ q ∈ ps, q ∉ B.T) ∧ d = .ref p ∧ M2 = .one p (.lst (refs ps)) :: .many ps rows :: M1 ∧ FrzB Φ rows M1
theorem e_fzD {te : TE} (h : EvW K B te s M (FzD K B Φ)) : EvW K B te s M Φ := fun G H σ Q L S q => h G H σ Q L S fun v d M2 G2 H2 L2 e2 r2 k => by
  obtain ⟨p, ps, rows, M1, hp, hq, rfl, rfl, k⟩ := k
  obtain ⟨G1, L1, e1, r1⟩ := frz_block (L2.perm (List.Perm.swap _ _ _)) hq
  obtain ⟨vs, hv, tv⟩ := L1.ats _ List.mem_cons_self
  have ev := refs_vals tv
  subst ev
  have f : G1 p = none := L1.free p (by rw [fpM_cons]; exact List.mem_cons_self)
  have e3 := Ex.new (o := HO.lst (ps.map V.ref)) f
  rw [r2.refOf]
  exact q _ _ M1 _ H2 (L1.freeze hp hv) ((e2.trans e1).trans e3) (.lst upd_same (r1.mono e3)) k
instance s_callMF : Stp (EvW K B (tCallS (spG K n (fnM RM)) (WE W) t) s M Φ) (EvA K B t s M fun ds M1 => CallV RM n ds fun rows => FrzB Φ rows M1) := ⟨fun h =>
  e_fzD (stp (i := s_callM) (a_mono h fun ds M1 c => callV_mono c fun rows k p ps hp hq hl => ⟨p, ps, rows, M1, hp, hq, rfl, rfl, k⟩))⟩
theorem lay_rot {x : Ent} {l : Ms} {G H : Hp} (L : Lay K B G (l ++ x :: M) H) : Lay K B G (x :: (l ++ M)) H := L.perm List.perm_middle
theorem lay_tor {x : Ent} {l : Ms} {G H : Hp} (L : Lay K B G (x :: (l ++ M)) H) : Lay K B G (l ++ x :: M) H := L.perm List.perm_middle.symm
theorem lay_join2 {x y : Ent} {p : Addr} {c : Cell} {ps : List Addr} {rows : List (List Dt)} {q : Addr} {r : List Dt} : ∀ G H, Lay K B G (.one q (.lst r) :: x :: y :: .one p c :: .many ps rows :: M) H → Lay K B G (x :: y :: .one p c :: .many (ps ++ [q]) (rows ++ [r]) :: M) H := fun G H L => by
  have h1 : Lay K B G (.one q (.lst r) :: x :: .one p c :: .many ps rows :: y :: M) H := L.perm (((List.perm_middle (a := y) (l₁ := [.one p c, .many ps rows]) (l₂ := M)).symm.cons x).cons _)
  have h2 := lay_join1 G H h1
  exact h2.perm ((List.perm_middle (a := y) (l₁ := [.one p c, .many (ps ++ [q]) (rows ++ [r])]) (l₂ := M)).cons x)
theorem w_fgt {e : Ent} {ts : TS} {P : Post} (hT : B.T = []) (k : WPs K B ts P s M) : WPs K B ts P s (e :: M) := w_lay (fun G H L => Lay.forgets (Mk := M) (Mr := [e]) (L.perm (List.perm_append_comm (l₁ := [e]) (l₂ := M))) hT) k
instance xokC0 : XOkC K B (fun _ _ _ _ => False) XF := ⟨xok0⟩
theorem snocI {l : List Int} {d : Int} : l.map Dt.int ++ [Dt.int d] = (l ++ [d]).map Dt.int := by simp
/-- what is looked at in a call: a row of a block | a block -/
instance (priority := high) viewRow {ps : List Addr} {rows : List (List Dt)} {k : Int} {xs ds es : List Dt} [b : BlockC M ps rows] [r : RowAt rows k.toNat xs] [i : InB ps k] [l : ViewC M ds es] : ViewC M (.ref (gt ps k) :: ds) (.lst xs :: es) := ⟨.cell (.row k.toNat b.h (get_gt i.h.1 i.h.2) r.h) l.h⟩
instance (priority := high) viewBlk {p : Addr} {ps : List Addr} {ws : List (List Int)} {ds es : List Dt} [f : FindC M p (.lst (refs ps))] [b : BlockC M ps (ws.map fun r => r.map Dt.int)] [l : ViewC M ds es] : ViewC M (.ref p :: ds) (.lst (ws.map dInts) :: es) := ⟨by
  have := View.block f.h b.h l.h
  rwa [List.map_map] at this⟩
theorem of_refs {ps : List Addr} {j : Nat} {d : Dt} (h : (refs ps)[j]? = some d) : ∃ q, ps[j]? = some q ∧ d = .ref (gt ps (j : Int)) := by
  obtain ⟨q, hq, rfl⟩ := of_get_map h
  exact ⟨q, hq, by rw [gt_nat hq]⟩
end
end Ask
/-! Functions that hand back more than one new list; functions that change a list they were handed. -/
namespace Ask
open PySem L2
section
variable {K : PySem.W.Frag} {B : Fr} {s : Sl} {M : Ms} {Φ : Dt → Ms → Prop} {n : Nat} {t : TA} {W : WX}
def fnG (R : List Dt → (Dt → Ms → Prop) → Prop) : FT := fun ds M Φ _ => M = [] ∧ ∃ post, R ds post ∧ ∀ d M', post d M' → Φ d M'
def OwnG (B : Fr) (Φ : Dt → Ms → Prop) (post : Dt → Ms → Prop) (M : Ms) : Prop := ∀ d M', post d M' → (∀ a ∈ fpM M', a ∉ B.T) → Φ d (M' ++ M)
instance s_callG {R : List Dt → (Dt → Ms → Prop) → Prop} : Stp (EvW K B (tOwn (tCallS (spG K n (fnG R)) (WE W) t)) s M Φ) (EvA K B t s M fun ds M1 => CallV R n ds fun post => OwnG B Φ post M1) := ⟨fun h G H σ Q L S q =>
  h G H σ _ L S fun vs ds M1 G1 H1 L1 e1 r ⟨hn, post, hr, k⟩ => by
    refine ⟨r.len.trans hn, G1, [], ds, post, fun _ _ => False, (show Lay K B G1 ([] ++ M1) H1 from L1).enter, r, ⟨rfl, post, hr, fun _ _ z => z⟩, fun v d M' G' H' L' r' kk => ?_, fun _ _ _ _ _ k => k.elim⟩
    have Lb : Lay K B G' (M' ++ M1) H' := Lay.back (Ma := []) L1 L'
    have fresh : ∀ a ∈ fpM M', a ∉ B.T := fun a ha z => L1.freshM ((L'.new a ha).resolve_left (by simp [fpM])) (L1.tin a z)
    exact q _ _ _ G' H' Lb (e1.trans (L'.grown L1.sub)) r' (k d M' kk fresh)⟩
theorem enterG {R : List Dt → (Dt → Ms → Prop) → Prop} {vs : List V} {H : Hp} {Q : VK} {E : XK} {ts : TS} {N : List Str} (h : spG K n (fnG R) vs H Q E)
    (k : ∀ (B : Fr) (ds : List Dt) (post : Dt → Ms → Prop), B.T = [] → R ds post → XOkC K B (WF E) XF → WPs K B ts { nx := fun _ M => False, rt := fun d M => post d M } (startD N.length ds) []) :
    ts { nx := fun _ H' => Q .non H', rt := Q } (L2.start N vs) H := by
  obtain ⟨hl, G, M, ds, Φ, Ξ, L, r, ⟨rfl, post, hr, kd⟩, kQ, kE⟩ := h
  exact k ⟨G, H, []⟩ ds post rfl hr ⟨fun C s M' G' H' σ L' _ x => x.elim⟩ _ G H _ ⟨fun s M' G' H' σ x L' _ _ => x.elim, fun v d M' G' H' x L' _ r' => kQ v _ _ G' H' L' r' (kd _ _ x), fun _ _ _ _ _ x => x.elim, fun _ _ _ _ _ x => x.elim⟩ L (slots_start r)
/-- the list handed in as the first argument (or None) may be changed -/
def fnC (R : List Dt → Dt → Prop) : FT := fun ds M Φ _ => ∃ x x' rest d, ds = x :: rest ∧ R (x' :: rest) d ∧
  ((x = .non ∧ x' = .non ∧ M = [] ∧ Φ d []) ∨ ∃ p es, x = .ref p ∧ x' = .lst es ∧ M = [.one p (.lst es)] ∧ ∀ es', Φ d [.one p (.lst es')])
def CallC (R : List Dt → Dt → Prop) (n : Nat) (ds : List Dt) (M1 : Ms) (Φ : Dt → Ms → Prop) : Prop := ds.length = n ∧ ∃ x rest, ds = x :: rest ∧
  ((x = .non ∧ ∃ d, R (.non :: rest) d ∧ Φ d M1) ∨ ∃ p es M2 d, x = .ref p ∧ M1 = .one p (.lst es) :: M2 ∧ R (.lst es :: rest) d ∧ ∀ es', Φ d (.one p (.lst es') :: M2))
instance s_callC {R : List Dt → Dt → Prop} : Stp (EvW K B (tCallS (spG K n (fnC R)) (WE W) t) s M Φ) (EvA K B t s M fun ds M1 => CallC R n ds M1 Φ) := ⟨fun h G H σ Q L S q =>
  h G H σ _ L S fun vs ds M1 G1 H1 L1 e1 r ⟨hn, x, rest, hds, c⟩ => by
    subst hds
    rcases c with ⟨rfl, d, hr, k⟩ | ⟨p, es, M2, d, rfl, rfl, hr, k⟩
    · refine ⟨r.len.trans hn, G1, [], _, fun d' M' => d' = d ∧ M' = [], fun _ _ => False, (show Lay K B G1 ([] ++ M1) H1 from L1).enter, r, ⟨_, _, _, d, rfl, hr, .inl ⟨rfl, rfl, rfl, rfl, rfl⟩⟩, fun v d' M' G' H' L' r' kk => ?_, fun _ _ _ _ _ k => k.elim⟩
      obtain ⟨rfl, rfl⟩ := kk
      have Lb : Lay K B G' ([] ++ M1) H' := Lay.back (Ma := []) L1 L'
      exact q _ _ _ _ _ Lb (e1.trans (L'.grown L1.sub)) r' k
    · refine ⟨r.len.trans hn, G1, [.one p (.lst es)], _, fun d' M' => d' = d ∧ ∃ es', M' = [.one p (.lst es')], fun _ _ => False, (show Lay K B G1 ([.one p (.lst es)] ++ M2) H1 from L1).enter, r, ⟨_, _, _, d, rfl, hr, .inr ⟨p, es, rfl, rfl, rfl, fun es' => ⟨rfl, es', rfl⟩⟩⟩, fun v d' M' G' H' L' r' kk => ?_, fun _ _ _ _ _ k => k.elim⟩
      obtain ⟨rfl, es', rfl⟩ := kk
      have Lb : Lay K B G' ([.one p (.lst es')] ++ M2) H' := Lay.back (Ma := [.one p (.lst es)]) L1 L'
      exact q _ _ _ _ _ Lb (e1.trans (L'.grown L1.sub)) r' (k es')⟩
theorem enterC {R : List Dt → Dt → Prop} {vs : List V} {H : Hp} {Q : VK} {E : XK} {ts : TS} {N : List Str} (h : spG K n (fnC R) vs H Q E)
    (k : ∀ (B : Fr) (x x' : Dt) (rest : List Dt) (d : Dt) (M : Ms), R (x' :: rest) d → ((x = .non ∧ x' = .non ∧ M = []) ∨ ∃ p es, x = .ref p ∧ x' = .lst es ∧ M = [.one p (.lst es)]) → XOkC K B (WF E) XF →
      WPs K B ts { nx := fun _ M => False, rt := fun d' M' => d' = d ∧ ((x = .non ∧ M' = []) ∨ ∃ p es', x = .ref p ∧ M' = [.one p (.lst es')]) } (startD N.length (x :: rest)) M) :
    ts { nx := fun _ H' => Q .non H', rt := Q } (L2.start N vs) H := by
  obtain ⟨hl, G, M, ds, Φ, Ξ, L, r, ⟨x, x', rest, d, rfl, hr, c⟩, kQ, kE⟩ := h
  refine k ⟨G, H, fpM M⟩ x x' rest d M hr (c.imp (fun z => ⟨z.1, z.2.1, z.2.2.1⟩) fun ⟨p, es, z⟩ => ⟨p, es, z.1, z.2.1, z.2.2.1⟩) ⟨fun C s M' G' H' σ L' _ x => x.elim⟩ _ G H _ ⟨fun s M' G' H' σ x L' _ _ => x.elim, fun v d' M' G' H' z L' _ r' => ?_, fun _ _ _ _ _ x => x.elim, fun _ _ _ _ _ x => x.elim⟩ L (slots_start r)
  obtain ⟨rfl, z⟩ := z
  rcases c with ⟨rfl, rfl, rfl, kd⟩ | ⟨p, es, rfl, rfl, rfl, kd⟩
  · rcases z with ⟨_, rfl⟩ | ⟨p, es', e, rfl⟩
    · exact kQ v _ _ G' H' L' r' kd
    · cases e
  · rcases z with ⟨e, rfl⟩ | ⟨p', es', e, rfl⟩
    · cases e
    · cases e
      exact kQ v _ _ G' H' L' r' (kd es')
end
end Ask
/-! A house with its rooms numbered otherwise; a search both ways round. -/
namespace Ask
/-- where room k goes -/
def plI (rooms b k : Int) : Int := if k = 0 then 0 else 1 + ((k - 1) + b) % (rooms - 1)
def placesOf (rooms : Nat) (b : Int) : List Int := 0 :: (List.range (rooms - 1)).map fun k : Nat => 1 + ((k : Int) + b) % ((rooms : Int) - 1)
section
variable {rooms b k : Int}
theorem plI_zero : plI rooms b 0 = 0 := if_pos rfl
theorem plI_in (h : 0 ≤ k ∧ k < rooms) : 0 ≤ plI rooms b k ∧ plI rooms b k < rooms := by
  unfold plI
  split
  · omega
  · have h1 : 0 ≤ ((k - 1) + b) % (rooms - 1) := Int.emod_nonneg _ (by omega)
    have h2 : ((k - 1) + b) % (rooms - 1) < rooms - 1 := Int.emod_lt_of_pos _ (by omega)
    omega
def unI (rooms b j : Int) : Int := if j = 0 then 0 else 1 + ((j - 1) + -b) % (rooms - 1)
theorem mod_back {m x c : Int} (h : 0 ≤ x ∧ x < m) : (((x + c) % m) + -c) % m = x := by
  rw [Int.emod_add_emod, Int.add_assoc, Int.add_right_neg, Int.add_zero]
  exact Int.emod_eq_of_lt h.1 h.2
theorem un_pl (h : 0 ≤ k ∧ k < rooms) : unI rooms b (plI rooms b k) = k := by
  unfold plI unI
  by_cases q : k = 0
  · rw [if_pos q, if_pos rfl, q]
  · rw [if_neg q]
    have h1 : 0 ≤ ((k - 1) + b) % (rooms - 1) := Int.emod_nonneg _ (by omega)
    rw [if_neg (by omega), show 1 + (k - 1 + b) % (rooms - 1) - 1 = (k - 1 + b) % (rooms - 1) by omega, mod_back ⟨by omega, by omega⟩]; omega
theorem pl_un (h : 0 ≤ k ∧ k < rooms) : plI rooms b (unI rooms b k) = k := by
  unfold plI unI
  by_cases q : k = 0
  · rw [if_pos q, if_pos rfl, q]
  · rw [if_neg q]
    have h1 : 0 ≤ ((k - 1) + -b) % (rooms - 1) := Int.emod_nonneg _ (by omega)
    have := mod_back (m := rooms - 1) (x := k - 1) (c := -b) ⟨by omega, by omega⟩
    rw [Int.neg_neg] at this
    rw [if_neg (by omega), show 1 + (k - 1 + -b) % (rooms - 1) - 1 = (k - 1 + -b) % (rooms - 1) by omega, this]; omega
theorem un_in (h : 0 ≤ k ∧ k < rooms) : 0 ≤ unI rooms b k ∧ unI rooms b k < rooms := by
  unfold unI
  split
  · omega
  · have h1 : 0 ≤ ((k - 1) + -b) % (rooms - 1) := Int.emod_nonneg _ (by omega)
    have h2 : ((k - 1) + -b) % (rooms - 1) < rooms - 1 := Int.emod_lt_of_pos _ (by omega)
    omega
end
theorem places_len {rooms : Nat} {b : Int} (h : 1 ≤ rooms) : (placesOf rooms b).length = rooms := by simp [placesOf]; omega
theorem places_gt {rooms : Nat} {b k : Int} (h : 0 ≤ k ∧ k < rooms) : gt (placesOf rooms b) k = plI rooms b k := by
  unfold plI gt placesOf
  split
  · rename_i q; rw [q]; rfl
  · obtain ⟨j, hj⟩ : ∃ j : Nat, k = (j : Int) + 1 := ⟨(k - 1).toNat, by omega⟩
    subst hj
    rw [show ((j : Int) + 1).toNat = j + 1 by omega, List.getD_cons_succ, List.getD_eq_getElem?_getD, List.getElem?_map, List.getElem?_range (by omega)]
    show 1 + ((j : Int) + b) % ((rooms : Int) - 1) = _
    rw [show (j : Int) + 1 - 1 = j by omega]
/-- one after the other at its place -/
def putAll {α : Type} (l : List α) (pl : Nat → Nat) (v : Nat → α) : Nat → List α
  | 0 => l
  | i + 1 => (putAll l pl v i).set (pl i) (v i)
section
variable {α : Type} {l : List α} {pl : Nat → Nat} {v : Nat → α}
theorem putAll_len : ∀ i, (putAll l pl v i).length = l.length
  | 0 => rfl
  | i + 1 => by unfold putAll; rw [List.length_set, putAll_len i]
theorem putAll_get {n : Nat} (inj : ∀ a b, a < n → b < n → pl a = pl b → a = b) (hp : ∀ a, a < n → pl a < l.length) : ∀ {i k : Nat}, i ≤ n → k < i → (putAll l pl v i)[pl k]? = some (v k)
  | 0, k, _, h => by omega
  | i + 1, k, hi, h => by
    unfold putAll
    by_cases q : k = i
    · rw [q, List.getElem?_set_self (by rw [putAll_len]; exact hp i (by omega))]
    · rw [List.getElem?_set_ne (fun e => q (inj i k (by omega) (by omega) e).symm)]
      exact putAll_get inj hp (by omega) (by omega)
end
def plN (rooms : Nat) (b : Int) (k : Nat) : Nat := (plI rooms b k).toNat
def turnWs (ways : List (List Int)) (b : Int) (i : Nat) : List (List Int) := putAll (List.replicate ways.length []) (plN ways.length b) (fun k => (gt ways (k : Int)).map (plI ways.length b)) i
def turnLs (lamps : List Bool) (b : Int) (i : Nat) : List Bool := putAll (List.replicate lamps.length false) (plN lamps.length b) (fun k => gt lamps (k : Int)) i
def turnW (ways : List (List Int)) (b : Int) : List (List Int) := turnWs ways b ways.length ++ [(gt ways 0).map fun _ => b % ((ways.length : Int) + 1)]
def turnL (lamps : List Bool) (b : Int) : List Bool := turnLs lamps b lamps.length ++ [decide (b % 2 = 0)]
section
variable {doors b : Int} {ways : List (List Int)} {lamps : List Bool}
theorem plN_inj {rooms : Nat} {x y : Nat} (hx : x < rooms) (hy : y < rooms) (h : plN rooms b x = plN rooms b y) : x = y := by
  unfold plN at h
  have h1 := plI_in (b := b) (k := (x : Int)) (rooms := (rooms : Int)) ⟨by omega, by omega⟩
  have h2 := plI_in (b := b) (k := (y : Int)) (rooms := (rooms : Int)) ⟨by omega, by omega⟩
  have e : plI rooms b x = plI rooms b y := by omega
  have u1 := un_pl (b := b) (k := (x : Int)) (rooms := (rooms : Int)) ⟨by omega, by omega⟩
  have u2 := un_pl (b := b) (k := (y : Int)) (rooms := (rooms : Int)) ⟨by omega, by omega⟩
  rw [e, u2] at u1; omega
theorem plN_lt {rooms x : Nat} (hx : x < rooms) : plN rooms b x < rooms := by
  have h1 := plI_in (b := b) (k := (x : Int)) (rooms := (rooms : Int)) ⟨by omega, by omega⟩
  unfold plN; omega
theorem turnW_get {k : Int} (h : 0 ≤ k ∧ k < (ways.length : Int)) : gt (turnW ways b) (plI ways.length b k) = (gt ways k).map (plI ways.length b) := by
  obtain ⟨j, rfl⟩ : ∃ j : Nat, k = j := ⟨k.toNat, by omega⟩
  have := putAll_get (l := List.replicate ways.length ([] : List Int)) (v := fun k : Nat => (gt ways (k : Int)).map (plI ways.length b)) (pl := plN ways.length b) (n := ways.length) (fun a b h1 h2 => plN_inj h1 h2) (fun a ha => by rw [List.length_replicate]; exact plN_lt ha) (Nat.le_refl _) (show j < ways.length by omega)
  unfold gt turnW turnWs
  rw [List.getD_eq_getElem?_getD, List.getElem?_append_left (by rw [putAll_len, List.length_replicate]; exact plN_lt (show j < ways.length by omega))]
  show ((putAll _ _ _ _)[plN ways.length b j]?).getD default = _
  rw [this]; rfl
theorem turnL_get {k : Int} (h : 0 ≤ k ∧ k < (lamps.length : Int)) : gt (turnL lamps b) (plI lamps.length b k) = gt lamps k := by
  obtain ⟨j, rfl⟩ : ∃ j : Nat, k = j := ⟨k.toNat, by omega⟩
  have := putAll_get (l := List.replicate lamps.length false) (v := fun k : Nat => gt lamps (k : Int)) (pl := plN lamps.length b) (n := lamps.length) (fun a b h1 h2 => plN_inj h1 h2) (fun a ha => by rw [List.length_replicate]; exact plN_lt ha) (Nat.le_refl _) (show j < lamps.length by omega)
  unfold gt turnL turnLs
  rw [List.getD_eq_getElem?_getD, List.getElem?_append_left (by rw [putAll_len, List.length_replicate]; exact plN_lt (show j < lamps.length by omega))]
  show ((putAll _ _ _ _)[plN lamps.length b j]?).getD default = _
  rw [this]; rfl
theorem turnW_len : (turnW ways b).length = ways.length + 1 := by simp [turnW, turnWs, putAll_len]
theorem turnL_len : (turnL lamps b).length = lamps.length + 1 := by simp [turnL, turnLs, putAll_len]
theorem turn_ok (h : HouseOk doors ways lamps) (hl : (ways.length : Int) ≤ 399) {lamps' : List Bool} (hl' : lamps'.length = ways.length + 1) : HouseOk doors (turnW ways b) lamps' := by
  have h3 := h.2.2.1
  refine ⟨h.1, h.2.1, by rw [turnW_len]; omega, by rw [turnW_len]; omega, by rw [turnW_len, hl'], fun row hrow => ?_⟩
  rcases List.mem_append.mp hrow with q | q
  · obtain ⟨j, hj, e⟩ := List.mem_iff_getElem.mp q
    have hjl : j < ways.length := by rw [turnWs, putAll_len, List.length_replicate] at hj; exact hj
    have hu := un_in (b := b) (k := (j : Int)) (rooms := (ways.length : Int)) ⟨by omega, by omega⟩
    have hpu := pl_un (b := b) (k := (j : Int)) (rooms := (ways.length : Int)) ⟨by omega, by omega⟩
    have hg := turnW_get (b := b) (ways := ways) hu
    rw [hpu] at hg
    have : gt (turnW ways b) (j : Int) = row := gt_nat (by unfold turnW; rw [List.getElem?_append_left hj, List.getElem?_eq_getElem hj, e])
    rw [this] at hg
    have hro := h.2.2.2.2.2 _ (gt_mem hu.1 hu.2)
    rw [hg]
    refine ⟨by rw [List.length_map]; exact hro.1, fun x hx => ?_⟩
    obtain ⟨y, hy, rfl⟩ := List.mem_map.mp hx
    have := plI_in (b := b) (rooms := (ways.length : Int)) (hro.2 y hy)
    rw [turnW_len]; omega
  · rw [List.mem_singleton.mp q]
    refine ⟨by rw [List.length_map]; exact row_len h (room0 h), fun x hx => ?_⟩
    obtain ⟨y, hy, rfl⟩ := List.mem_map.mp hx
    have := mod_in (x := b) (m := (ways.length : Int) + 1) (by omega)
    rw [turnW_len]; omega
theorem turn_step (h : HouseOk doors ways lamps) {r d : Int} (hr : 0 ≤ r ∧ r < (ways.length : Int)) (hd : 0 ≤ d ∧ d < doors) : stepOf (turnW ways b) (plI ways.length b r) d = plI ways.length b (stepOf ways r d) := by
  have hrl := row_len h hr
  unfold stepOf
  rw [turnW_get hr]
  generalize gt ways r = row at hrl ⊢
  unfold gt
  rw [List.getD_eq_getElem?_getD, List.getElem?_map, List.getD_eq_getElem?_getD, List.getElem?_eq_getElem (show d.toNat < row.length by omega)]; rfl
theorem turn_walk (h : HouseOk doors ways lamps) : ∀ {w : List Int} {r : Int}, 0 ≤ r ∧ r < (ways.length : Int) → WordOk doors w → walkOf (turnW ways b) (plI ways.length b r) w = plI ways.length b (walkOf ways r w)
  | [], r, hr, _ => rfl
  | d :: w, r, hr, hw => by
    have hd := hw d (by simp)
    show walkOf (turnW ways b) (stepOf (turnW ways b) (plI ways.length b r) d) w = plI ways.length b (walkOf ways (stepOf ways r d) w)
    rw [turn_step h hr hd, turn_walk h (step_in h hr hd) fun x hx => hw x (by simp [hx])]
/-- nothing parts them -/
theorem turn_none {n : Nat} (h : HouseOk n ways lamps) (hl : (ways.length : Int) ≤ 399) : partOf ways (turnW ways b) lamps 0 (turnL lamps b) 0 n = none := by
  have hll := h.2.2.2.2.1
  have h2 : HouseOk n (turnW ways b) (turnL lamps b) := turn_ok h hl (by rw [turnL_len, hll])
  cases hres : partOf ways (turnW ways b) lamps 0 (turnL lamps b) 0 n with
  | none => rfl
  | some w =>
    obtain ⟨hw, hne, _⟩ := searchP_sound h h2 (InvP.start (room0 h) (room0 h2)) hres
    have hin := walk_in h (room0 h) hw
    have := turn_walk (b := b) h (room0 h) hw
    rw [plI_zero] at this
    rw [this, ← hll] at hne
    exact absurd (turnL_get (b := b) (by rw [hll]; exact hin)).symm hne
end
/-! ### the other way round -/
def flipE (e : PE2) : PE2 := (e.1, e.2.2, e.2.1)
section
variable {w1 w2 : List (List Int)} {l1 l2 : List Bool} {doors : Nat} {left right : Int} {E : List PE2} {e : PE2}
theorem flip_push {d : Nat} : pushP w2 w1 (E.map flipE) (flipE e) d = (pushP w1 w2 E e d).map flipE := by
  unfold pushP
  have hm : (stepOf w2 (flipE e).2.1 d, stepOf w1 (flipE e).2.2 d) ∈ (E.map flipE).map (·.2) ↔ (stepOf w1 e.2.1 d, stepOf w2 e.2.2 d) ∈ E.map (·.2) := by
    simp only [List.map_map, List.mem_map, Function.comp, flipE, Prod.mk.injEq]
    constructor
    · rintro ⟨x, hx, a, b⟩; exact ⟨x, hx, Prod.ext b a⟩
    · rintro ⟨x, hx, q⟩; exact ⟨x, hx, by rw [q], by rw [q]⟩
  by_cases q : (stepOf w1 e.2.1 d, stepOf w2 e.2.2 d) ∈ E.map (·.2)
  · rw [if_pos q, if_pos (hm.mpr q)]
  · rw [if_neg q, if_neg fun z => q (hm.mp z), List.map_append]; rfl
theorem flip_pushes : ∀ n, pushesP w2 w1 (E.map flipE) (flipE e) n = (pushesP w1 w2 E e n).map flipE
  | 0 => rfl
  | n + 1 => by rw [pushesP_succ, pushesP_succ, flip_pushes n, flip_push]
theorem flip_search : ∀ {f : Nat} {E : List PE2} {k : Nat}, searchP w2 w1 l2 l1 doors f (E.map flipE) k = searchP w1 w2 l1 l2 doors f E k
  | 0, _, _ => rfl
  | f + 1, E, k => by
    show (match (E.map flipE)[k]? with | none => none | some e => _) = (match E[k]? with | none => none | some e => _)
    rw [List.getElem?_map]
    cases E[k]? with
    | none => rfl
    | some e =>
      show (if gt l2 e.2.2 ≠ gt l1 e.2.1 then some e.1 else searchP w2 w1 l2 l1 doors f (pushesP w2 w1 (E.map flipE) (flipE e) doors) (k + 1)) = if gt l1 e.2.1 ≠ gt l2 e.2.2 then some e.1 else searchP w1 w2 l1 l2 doors f (pushesP w1 w2 E e doors) (k + 1)
      rw [flip_pushes, flip_search]
      by_cases q : gt l1 e.2.1 = gt l2 e.2.2
      · rw [if_neg (by simp [q]), if_neg (by simp [q])]
      · rw [if_pos q, if_pos (Ne.symm q)]
theorem part_flip : partOf w2 w1 l2 right l1 left doors = partOf w1 w2 l1 left l2 right doors := by
  unfold partOf
  rw [Nat.mul_comm]
  exact flip_search (E := [([], left, right)])
end
/-- what is owned may be taken to stay as it is -/
def FrzTo (K : PySem.W.Frag) (B : Fr) (s : Sl) (M : Ms) (s' : Sl) (M' : Ms) : Prop := ∀ ts P, WPs K B ts P s' M' → WPs K B ts P s M
end Ask
/-! The least lit word; walks counted forward. -/
namespace Ask
section
variable {ways : List (List Int)} {lamps : List Bool} {n : Nat} {ws : List (List Int)}
theorem wordOk_snoc {d : Int} {w : List Int} {doors : Int} (h : WordOk doors w) (hd : 0 ≤ d ∧ d < doors) : WordOk doors (w ++ [d]) := fun x hx => by
  rcases List.mem_append.mp hx with z | z
  · exact h x z
  · rw [List.mem_singleton.mp z]; exact hd
theorem least_all (h : LeastOk ways n ws) : ∀ {m : Nat} {w : List Int}, w.length = m → WordOk n w → Beh ways ws w
  | 0, w, hl, _ => by
    have : w = [] := by simpa using hl
    subst this
    exact ⟨[], List.mem_of_getElem? h.h0, rfl, .inl rfl⟩
  | m + 1, w, hl, hw => by
    obtain ⟨v, d, rfl⟩ : ∃ v d, w = v ++ [d] := ⟨w.dropLast, w.getLast (by intro e; rw [e] at hl; simp at hl), (List.dropLast_concat_getLast _).symm⟩
    have hd := hw d (by simp)
    obtain ⟨u, hu, hue, hul⟩ := least_all h (m := m) (by simpa using hl) (fun x hx => hw x (by simp [hx]))
    obtain ⟨z, hz, hze, hzl⟩ := h.beh u hu d.toNat (by omega)
    rw [show ((d.toNat : Nat) : Int) = d by omega] at hze hzl
    refine ⟨z, hz, ?_, ?_⟩
    · rw [hze, walkOf_snoc, walkOf_snoc, hue]
    · rcases hul with rfl | hul
      · exact hzl
      · have := sltB_snoc (x := d) (y := d) hul
        rcases hzl with rfl | hzl
        · exact .inr this
        · exact .inr (sltB_trans hzl this)
def leastLit (ways : List (List Int)) (lamps : List Bool) (ws : List (List Int)) : Option (List Int) := ws.find? fun w => gt lamps (walkOf ways 0 w)
theorem lit_none (hk : HouseOk n ways lamps) (h : LeastOk ways n ws) (hf : leastLit ways lamps ws = none) (k : Nat) : cnt ways lamps k 0 = 0 := by
  have h0 := cnt_nonneg (ways := ways) (lamps := lamps) k 0
  by_cases q : 0 < cnt ways lamps k 0
  · obtain ⟨a, b, c, _⟩ := unrk_ok hk (room0 hk) (Int.le_refl 0) q
    obtain ⟨u, hu, hue, _⟩ := least_all h a b
    have := List.find?_eq_none.mp hf u hu
    rw [lit_is] at c
    rw [hue] at this
    exact absurd c this
  · omega
structure FirstLit (ways : List (List Int)) (lamps : List Bool) (n : Nat) (w : List Int) : Prop where
  wd : WordOk n w
  lt : litOf ways lamps 0 w = true
  fr : ∀ v, WordOk n v → litOf ways lamps 0 v = true → sltB v w = false
theorem find_first {α : Type} {p : α → Bool} {a : α} : ∀ {l : List α}, l.find? p = some a → ∃ i : Nat, l[i]? = some a ∧ ∀ j b, j < i → l[j]? = some b → p b = false
  | x :: l, h => by
    by_cases q : p x = true
    · rw [List.find?_cons_of_pos q] at h; cases h
      exact ⟨0, rfl, fun j b hj => by omega⟩
    · rw [List.find?_cons_of_neg q] at h
      obtain ⟨i, h1, h2⟩ := find_first h
      refine ⟨i + 1, by simpa using h1, fun j b hj hb => ?_⟩
      cases j with
      | zero => simp at hb; rw [← hb]; simpa using q
      | succ j => exact h2 j b (by omega) (by simpa using hb)
theorem lit_some (h : LeastOk ways n ws) {w : List Int} (hf : leastLit ways lamps ws = some w) : FirstLit ways lamps n w ∧ w ∈ ws := by
  have hm := List.mem_of_find?_eq_some hf
  refine ⟨⟨(h.wd w hm).1, List.find?_some hf, fun v hv hl => ?_⟩, hm⟩
  obtain ⟨u, hu, hue, hul⟩ := least_all h rfl hv
  obtain ⟨i, hi, hb⟩ := find_first hf
  obtain ⟨j, hj⟩ := List.getElem?_of_mem hu
  rw [lit_is, ← hue] at hl
  have hij : i ≤ j := by
    by_cases q : i ≤ j
    · exact q
    · have := hb j u (by omega) hj
      rw [this] at hl; cases hl
  have hwu : w = u ∨ sltB w u = true := by
    rcases Nat.lt_or_ge i j with q | q
    · obtain ⟨h1, e1⟩ := List.getElem?_eq_some_iff.mp hi
      obtain ⟨h2, e2⟩ := List.getElem?_eq_some_iff.mp hj
      have := List.pairwise_iff_getElem.mp h.so i j h1 h2 q
      rw [e1, e2] at this; exact .inr this
    · have : i = j := by omega
      subst this
      rw [hi] at hj; cases hj; exact .inl rfl
  rcases hwu with rfl | a
  · rcases hul with rfl | b
    · exact sltB_irr _
    · exact sltB_asymm b
  · rcases hul with rfl | b
    · exact sltB_asymm a
    · exact sltB_asymm (sltB_trans a b)
theorem FirstLit.shorter (hk : HouseOk n ways lamps) {w : List Int} (h : FirstLit ways lamps n w) {k : Nat} (hl : k < w.length) : cnt ways lamps k 0 = 0 := by
  have h0 := cnt_nonneg (ways := ways) (lamps := lamps) k 0
  by_cases q : 0 < cnt ways lamps k 0
  · obtain ⟨a, b, c, _⟩ := unrk_ok hk (room0 hk) (Int.le_refl 0) q
    have := h.fr _ b c
    unfold sltB at this
    rw [if_neg (by omega), decide_eq_false_iff_not] at this
    omega
  · omega
theorem lexB_at : ∀ {p v w : List Int} {d e : Int}, d < e → lexB (p ++ d :: v) (p ++ e :: w) = true
  | [], v, w, d, e, h => by rw [List.nil_append, List.nil_append, lexB, if_neg (by omega), decide_eq_true_eq]; exact h
  | x :: p, v, w, d, e, h => by rw [List.cons_append, List.cons_append, lexB, if_pos rfl]; exact lexB_at h
theorem walk_app {r : Int} {a b : List Int} : walkOf ways r (a ++ b) = walkOf ways (walkOf ways r a) b := by
  unfold walkOf; rw [List.foldl_append]
theorem FirstLit.earlier (hk : HouseOk n ways lamps) {w : List Int} (h : FirstLit ways lamps n w) {k : Nat} {e d : Int} (hl : w[k]? = some e) (hd : 0 ≤ d ∧ d < e) : cnt ways lamps (w.length - k - 1) (stepOf ways (walkOf ways 0 (w.take k)) d) = 0 := by
  have h0 := cnt_nonneg (ways := ways) (lamps := lamps) (w.length - k - 1) (stepOf ways (walkOf ways 0 (w.take k)) d)
  have hkl := (List.getElem?_eq_some_iff.mp hl).1
  have hwe := h.wd e (List.mem_of_getElem? hl)
  have hin := walk_in hk (room0 hk) (h.wd.take k)
  have hst := step_in hk hin (d := d) ⟨by omega, by omega⟩
  by_cases q : 0 < cnt ways lamps (w.length - k - 1) (stepOf ways (walkOf ways 0 (w.take k)) d)
  · obtain ⟨a, b, c, _⟩ := unrk_ok hk hst (Int.le_refl 0) q
    generalize unrk ways lamps (w.length - k - 1) (stepOf ways (walkOf ways 0 (w.take k)) d) 0 = v at a b c
    have hw : w = w.take k ++ e :: w.drop (k + 1) := by
      conv => lhs; rw [← List.take_append_drop k w]
      rw [List.drop_eq_getElem_cons hkl]
      congr 2
      exact Option.some.inj ((List.getElem?_eq_getElem hkl).symm.trans hl)
    have hfr := h.fr (w.take k ++ d :: v) (fun x hx => by
      rcases List.mem_append.mp hx with z | z
      · exact h.wd.take k x z
      · rcases List.mem_cons.mp z with rfl | z
        · exact ⟨by omega, by omega⟩
        · exact b x z) (by rw [lit_is] at c ⊢; rw [walk_app]; exact c)
    have htl : (w.take k).length = k := by rw [List.length_take]; omega
    unfold sltB at hfr
    rw [if_pos (by rw [List.length_append, htl, List.length_cons, a]; omega)] at hfr
    conv at hfr => lhs; rw [hw]
    rw [List.take_append_of_le_length (by omega), List.take_of_length_le (by omega), lexB_at hd.2] at hfr
    cases hfr
  · omega
end
/-! ### forward -/
def dotL : List Int → (Nat → Int) → Int
  | [], _ => 0
  | a :: l, f => a * f 0 + dotL l fun i => f (i + 1)
theorem dot_set : ∀ {l : List Int} {j : Nat} {f : Nat → Int} {x y : Int}, l[j]? = some y → dotL (l.set j (y + x)) f = dotL l f + x * f j
  | [], j, f, x, y, h => by simp at h
  | a :: l, 0, f, x, y, h => by
    simp only [List.getElem?_cons_zero, Option.some.injEq] at h
    subst h
    rw [List.set_cons_zero, dotL, dotL, Int.add_mul]; omega
  | a :: l, j + 1, f, x, y, h => by
    rw [List.set_cons_succ, dotL, dotL, dot_set (by simpa using h)]; omega
theorem dot_range : ∀ {l : List Int} {f : Nat → Int}, dotL l f = ((List.range l.length).map fun i : Nat => gt l (i : Int) * f i).sum
  | [], f => rfl
  | a :: l, f => by
    rw [dotL, dot_range, List.length_cons, List.range_succ_eq_map, List.map_cons, List.sum_cons, List.map_map]
    rfl
theorem sum_filter {α : Type} {p : α → Bool} {g : α → Int} : ∀ {l : List α}, ((l.filter p).map g).sum = (l.map fun i => g i * (if p i = true then 1 else 0)).sum
  | [] => rfl
  | a :: l => by
    by_cases q : p a = true
    · rw [List.filter_cons_of_pos q, List.map_cons, List.sum_cons, List.map_cons, List.sum_cons, sum_filter, if_pos q, Int.mul_one]
    · rw [List.filter_cons_of_neg q, List.map_cons, List.sum_cons, sum_filter, if_neg q, Int.mul_zero, Int.zero_add]
def bump (T : List Int) (x : Int) (to : Int) : List Int := T.set to.toNat (gt T to + x)
theorem bump_len {T : List Int} {x to : Int} : (bump T x to).length = T.length := by simp [bump]
theorem dot_bump {T : List Int} {x to : Int} {f : Nat → Int} (h : 0 ≤ to ∧ to < (T.length : Int)) : dotL (bump T x to) f = dotL T f + x * f to.toNat := dot_set (get_gt h.1 h.2)
theorem dot_row {row : List Int} {x : Int} {f : Nat → Int} : ∀ {T : List Int}, (∀ to ∈ row, 0 ≤ to ∧ to < (T.length : Int)) → (row.foldl (fun T to => bump T x to) T).length = T.length ∧ dotL (row.foldl (fun T to => bump T x to) T) f = dotL T f + x * (row.map fun to => f to.toNat).sum := by
  induction row with
  | nil => intro T _; exact ⟨rfl, by simp⟩
  | cons a row ih =>
    intro T h
    obtain ⟨h1, h2⟩ := ih (T := bump T x a) (fun to hto => by rw [bump_len]; exact h to (by simp [hto]))
    refine ⟨by rw [List.foldl_cons, h1, bump_len], ?_⟩
    rw [List.foldl_cons, h2, dot_bump (h a (by simp)), List.map_cons, List.sum_cons, Int.mul_add]; omega
section
variable (ways : List (List Int))
def pushF (c : List Int) (i : Nat) : List Int := (List.range i).foldl (fun (T : List Int) (r : Nat) => (gt ways (r : Int)).foldl (fun T to => bump T (gt c (r : Int)) to) T) (List.replicate ways.length 0)
theorem pushF_succ {c : List Int} {i : Nat} : pushF ways c (i + 1) = (gt ways (i : Int)).foldl (fun T to => bump T (gt c (i : Int)) to) (pushF ways c i) := by
  unfold pushF; rw [List.range_succ, List.foldl_append]; rfl
def fwd : Nat → List Int
  | 0 => (List.replicate ways.length 0).set 0 1
  | k + 1 => pushF ways (fwd k) ways.length
end
section
variable {ways : List (List Int)} {lamps : List Bool} {doors : Int}
theorem dot_zero {m : Nat} : ∀ {f : Nat → Int}, dotL (List.replicate m 0) f = 0 := by
  induction m with
  | zero => intro f; rfl
  | succ m ih => intro f; rw [List.replicate_succ, dotL, ih]; omega
theorem pushF_ok (h : HouseOk doors ways lamps) {c : List Int} {f : Nat → Int} : ∀ {i : Nat}, i ≤ ways.length → (pushF ways c i).length = ways.length ∧ dotL (pushF ways c i) f = ((List.range i).map fun r : Nat => gt c (r : Int) * ((gt ways (r : Int)).map fun to => f to.toNat).sum).sum
  | 0, _ => ⟨by simp [pushF], by rw [pushF]; exact dot_zero⟩
  | i + 1, hi => by
    obtain ⟨h1, h2⟩ := pushF_ok h (c := c) (f := f) (i := i) (by omega)
    have hro := h.2.2.2.2.2 _ (gt_mem (l := ways) (i := (i : Int)) (by omega) (by omega))
    obtain ⟨g1, g2⟩ := dot_row (x := gt c (i : Int)) (f := f) (T := pushF ways c i) (row := gt ways (i : Int)) (fun to hto => by rw [h1]; exact hro.2 to hto)
    rw [pushF_succ]
    refine ⟨by rw [g1, h1], ?_⟩
    rw [g2, h2, List.range_succ, List.map_append, List.sum_append]; simp
theorem fwd_ok (h : HouseOk doors ways lamps) : ∀ {k m : Nat}, (fwd ways k).length = ways.length ∧ dotL (fwd ways k) (fun r => cnt ways lamps m (r : Int)) = cnt ways lamps (m + k) 0
  | 0, m => by
    have h1 := h.2.2.1
    refine ⟨by simp [fwd], ?_⟩
    unfold fwd
    have : (List.replicate ways.length (0 : Int))[0]? = some 0 := by rw [List.getElem?_replicate, if_pos (by omega)]
    have := dot_set (x := 1) (f := fun r => cnt ways lamps m (r : Int)) this
    rw [Int.zero_add] at this
    rw [this, dot_zero]; simp
  | k + 1, m => by
    obtain ⟨h1, h2⟩ := fwd_ok h (k := k) (m := m + 1)
    obtain ⟨g1, g2⟩ := pushF_ok h (c := fwd ways k) (f := fun r => cnt ways lamps m (r : Int)) (Nat.le_refl _)
    refine ⟨g1, ?_⟩
    unfold fwd
    rw [g2, show m + (k + 1) = m + 1 + k by omega, ← h2, dot_range, h1]
    congr 1
    refine List.map_congr_left fun r hr => ?_
    have hr' := List.mem_range.mp hr
    congr 1
    show _ = ((gt ways (r : Int)).map (cnt ways lamps m)).sum
    congr 1
    refine List.map_congr_left fun to hto => ?_
    have hro := h.2.2.2.2.2 _ (gt_mem (l := ways) (i := (r : Int)) (by omega) (by omega))
    have := hro.2 to hto
    rw [Int.toNat_of_nonneg this.1]
theorem fwd_lit (h : HouseOk doors ways lamps) {k : Nat} : (((List.range ways.length).filter fun i : Nat => gt lamps (i : Int)).map fun i : Nat => gt (fwd ways k) (i : Int)).sum = cnt ways lamps k 0 := by
  obtain ⟨h1, h2⟩ := fwd_ok h (k := k) (m := 0)
  rw [sum_filter, ← Nat.zero_add k, ← h2, dot_range, Nat.zero_add, h1]; rfl
end
end Ask
/-! A function that changes the list it was handed last. -/
namespace Ask
open PySem L2
section
variable {K : PySem.W.Frag} {B : Fr} {s : Sl} {M : Ms} {Φ : Dt → Ms → Prop} {n : Nat} {t : TA} {W : WX}
theorem Lay.forgetsT {G H : Hp} {Mk : Ms} : ∀ {Mr : Ms}, Lay K B G (Mk ++ Mr) H → (∀ a ∈ B.T, a ∈ fpM Mk) → Lay K B G Mk H
  | [], L, _ => by rwa [List.append_nil] at L
  | e :: Mr, L, hT => by
    have L2 : Lay K B G (e :: (Mk ++ Mr)) H := L.perm List.perm_middle
    have nd := L2.nd
    rw [fpM_cons] at nd
    have hM : ∀ a ∈ fpM (Mk ++ Mr), a ∈ fpM (e :: (Mk ++ Mr)) := fun a h => by rw [fpM_cons]; exact List.mem_append_right _ h
    exact Lay.forgetsT (Mr := Mr) ⟨L2.sub, (List.nodup_append.mp nd).2.1, fun a ha => L2.free a (hM a ha), fun x hx => L2.ats x (List.mem_cons_of_mem _ hx), L2.keep, L2.gfix, fun a ha => L2.new a (hM a ha), fun a ha => by rw [fpM_app]; exact List.mem_append_left _ (hT a ha)⟩ hT
theorem Lay.justT {G H : Hp} {e : Ent} (L : Lay K B G M H) (he : e ∈ M) (hT : ∀ a ∈ B.T, a ∈ fpM [e]) : Lay K B G [e] H := by
  obtain ⟨a, b, rfl⟩ := List.append_of_mem he
  exact Lay.forgetsT (Mk := [e]) (Mr := a ++ b) (L.perm List.perm_middle) hT
def fnD (R : List Dt → Dt → Prop) : FT := fun ds M Φ _ => ∃ ds' p es d, ds = ds'.dropLast ++ [.ref p] ∧ ds'.getLast? = some (.lst es) ∧ R ds' d ∧ M = [.one p (.lst es)] ∧ ∀ es', Φ d [.one p (.lst es')]
def CallD (R : List Dt → Dt → Prop) (n : Nat) (ds : List Dt) (M1 : Ms) (Φ : Dt → Ms → Prop) : Prop := ds.length = n ∧ ∃ ds' p es M2 d, ds = ds'.dropLast ++ [.ref p] ∧ ds'.getLast? = some (.lst es) ∧ R ds' d ∧ M1 = .one p (.lst es) :: M2 ∧ ∀ es', Φ d (.one p (.lst es') :: M2)
instance s_callD {R : List Dt → Dt → Prop} : Stp (EvW K B (tCallS (spG K n (fnD R)) (WE W) t) s M Φ) (EvA K B t s M fun ds M1 => CallD R n ds M1 Φ) := ⟨fun h G H σ Q L S q =>
  h G H σ _ L S fun vs ds M1 G1 H1 L1 e1 r ⟨hn, ds', p, es, M2, d, hds, hes, hr, hM, k⟩ => by
    subst hM
    refine ⟨r.len.trans hn, G1, [.one p (.lst es)], _, fun d' M' => d' = d ∧ ∃ es', M' = [.one p (.lst es')], fun _ _ => False, (show Lay K B G1 ([.one p (.lst es)] ++ M2) H1 from L1).enter, r, ⟨ds', p, es, d, hds, hes, hr, rfl, fun es' => ⟨rfl, es', rfl⟩⟩, fun v d' M' G' H' L' r' kk => ?_, fun _ _ _ _ _ k => k.elim⟩
    obtain ⟨rfl, es', rfl⟩ := kk
    have Lb : Lay K B G' ([.one p (.lst es')] ++ M2) H' := Lay.back (Ma := [.one p (.lst es)]) L1 L'
    exact q _ _ _ _ _ Lb (e1.trans (L'.grown L1.sub)) r' (k es')⟩
theorem enterD {R : List Dt → Dt → Prop} {vs : List V} {H : Hp} {Q : VK} {E : XK} {ts : TS} {N : List Str} (h : spG K n (fnD R) vs H Q E)
    (k : ∀ (B : Fr) (ds' : List Dt) (p : Addr) (es : List Dt) (d : Dt), R ds' d → ds'.getLast? = some (.lst es) → XOkC K B (WF E) XF →
      WPs K B ts { nx := fun _ M => False, rt := fun d' M' => d' = d ∧ ∃ es', Ent.one p (.lst es') ∈ M' } (startD N.length (ds'.dropLast ++ [.ref p])) [.one p (.lst es)]) :
    ts { nx := fun _ H' => Q .non H', rt := Q } (L2.start N vs) H := by
  obtain ⟨hl, G, M, ds, Φ, Ξ, L, r, ⟨ds', p, es, d, rfl, hes, hr, rfl, kd⟩, kQ, kE⟩ := h
  refine k ⟨G, H, fpM [.one p (.lst es)]⟩ ds' p es d hr hes ⟨fun C s M' G' H' σ L' _ x => x.elim⟩ _ G H _ ⟨fun s M' G' H' σ x L' _ _ => x.elim, fun v d' M' G' H' z L' _ r' => ?_, fun _ _ _ _ _ x => x.elim, fun _ _ _ _ _ x => x.elim⟩ L (slots_start r)
  obtain ⟨rfl, es', hm⟩ := z
  exact kQ v _ _ G' H' (L'.justT hm fun a ha => by simpa [fpM, Ent.fp] using ha) r' (kd es')
/-- what is made and kept, called by a function that tells a value -/
instance s_callVO {R : List Dt → Dt → Prop} : Stp (EvW K B (tOwn (tCallS (spG K n (fnV R)) (WE W) t)) s M Φ) (EvW K B (tCallS (spG K n (fnV R)) (WE W) t) s M Φ) := ⟨id⟩
instance (priority := low) s_lcFR {tl : TA} {tt : TT} {te : TE} {vs : List Nat} {j : Nat} : Stp (EvW K B (tLc (iRng1 tl) (gName j) tt te vs) s M Φ) (EvA K B tl s M fun xs M1 => ∃ n : Int, xs = [.int n] ∧ Pre (-1000000000 < n) (LcF K B tt te s vs j (rngI n) M1 fun es => Φ (.lst es) M1)) := ⟨fun h => e_lcR (a_mono h fun xs M1 q => by
  obtain ⟨n, hs, hn, hj, acc, h0, hz, hl, ht, k⟩ := q
  have hlen : (rngI n).length = n.toNat := by simp [rngI]
  rw [hlen] at hl hz k
  exact ⟨n, hs, ⟨by omega, by omega⟩, hj, acc, h0, fun i hi => by have := hl i hi; omega, fun i d hi hd => ht i d (by rw [hd]; unfold rngI; rw [List.getElem?_map, List.getElem?_range hi]; rfl), fun p hp => lc_frz hp k⟩)⟩
instance (priority := high) s_br_some {α : Type} {x : α} {p q : Prop} : Stp (Br ((some x).isSome = true) p q) p := ⟨br_yes rfl⟩
instance (priority := high) s_br_none {α : Type} {p q : Prop} : Stp (Br ((none : Option α).isSome = true) p q) q := ⟨br_no (by simp)⟩
instance s_ex_some {α : Type} {x : α} {f : α → Dt} {P : Dt → Prop} : Stp (∃ d, Option.map f (some x) = some d ∧ P d) (P (f x)) := ⟨fun k => ⟨_, rfl, k⟩⟩
end
end Ask
/-! Two houses mixed: the pairs that words lead to. -/
namespace Ask
abbrev PQ := Int × Int
def idxQ : List PQ → PQ → Nat
  | [], _ => 0
  | e :: l, p => if e = p then 0 else idxQ l p + 1
section
variable {E X : List PQ} {p e : PQ}
theorem idx_get : ∀ {E : List PQ} {p : PQ}, p ∈ E → E[idxQ E p]? = some p
  | e :: l, p, h => by
    unfold idxQ
    by_cases q : e = p
    · rw [if_pos q, q]; rfl
    · rw [if_neg q, List.getElem?_cons_succ]
      exact idx_get ((List.mem_cons.mp h).resolve_left (Ne.symm q))
theorem idx_lt (h : p ∈ E) : idxQ E p < E.length := (List.getElem?_eq_some_iff.mp (idx_get h)).1
theorem idx_app : ∀ {E : List PQ} {p : PQ}, p ∈ E → idxQ (E ++ X) p = idxQ E p
  | e :: l, p, h => by
    rw [List.cons_append, idxQ, idxQ]
    by_cases q : e = p
    · rw [if_pos q, if_pos q]
    · rw [if_neg q, if_neg q, idx_app ((List.mem_cons.mp h).resolve_left (Ne.symm q))]
theorem idx_new : ∀ {E : List PQ} {p : PQ}, p ∉ E → idxQ (E ++ [p]) p = E.length
  | [], p, _ => by rw [List.nil_append, idxQ, if_pos rfl]; rfl
  | e :: l, p, h => by
    have h1 : e ≠ p := fun z => h (by simp [z])
    rw [List.cons_append, idxQ, if_neg h1, idx_new (fun z => h (by simp [z]))]; rfl
def plQ (E : List PQ) : List (List Int × Int) := E.map fun p => ([p.1, p.2], (idxQ E p : Int))
theorem lkQ {α : Type} {E : List PQ} {v : PQ → α} {a b : Int} : lk (E.map fun p => ([p.1, p.2], v p)) [a, b] = if (a, b) ∈ E then some (v (a, b)) else none := by
  unfold lk getK
  induction E with
  | nil => rfl
  | cons e l ih =>
    rw [List.map_cons]
    by_cases q : e = (a, b)
    · rw [List.find?_cons_of_pos (by simp [q]), if_pos (by simp [q]), q]; rfl
    · have hne : ¬ ([e.1, e.2] = [a, b]) := fun z => q (by
        simp only [List.cons.injEq, and_true] at z
        exact Prod.ext z.1 z.2)
      rw [List.find?_cons_of_neg (by simpa using hne), ih]
      by_cases r : (a, b) ∈ l
      · rw [if_pos r, if_pos (by simp [r])]
      · rw [if_neg r, if_neg (by simp [r, Ne.symm q])]
theorem lk_plQ {a b : Int} : lk (plQ E) [a, b] = if (a, b) ∈ E then some (idxQ E (a, b) : Int) else none := lkQ
theorem ins_plQ {a b : Int} (h : (a, b) ∉ E) : ins (plQ E) [a, b] (E.length : Int) = plQ (E ++ [(a, b)]) := by
  have := lk_plQ (E := E) (a := a) (b := b)
  rw [if_neg h] at this
  unfold ins putKD
  unfold lk at this
  rw [this]
  unfold plQ
  rw [List.map_append]
  show List.map _ E ++ [([a, b], (E.length : Int))] = _
  congr 1
  · refine List.map_congr_left fun x hx => ?_
    rw [idx_app hx]
  · rw [List.map_cons, idx_new h]; rfl
end
section
variable (w1 w2 : List (List Int))
def stQ (e : PQ) (d : Nat) : PQ := (stepOf w1 e.1 d, stepOf w2 e.2 d)
def pushQ (E : List PQ) (p : PQ) : List PQ := if p ∈ E then E else E ++ [p]
def pushesQ (E : List PQ) (e : PQ) (n : Nat) : List PQ := (List.range n).foldl (fun E d => pushQ E (stQ w1 w2 e d)) E
def mixS (n : Nat) : Nat → List PQ → Nat → List PQ
  | 0, E, _ => E
  | f + 1, E, k => match E[k]? with
    | none => E
    | some e => mixS n f (pushesQ w1 w2 E e n) (k + 1)
def mixE (n : Nat) : List PQ := mixS w1 w2 n (w1.length * w2.length + 1) [(0, 0)] 0
def rowQ (E : List PQ) (e : PQ) (n : Nat) : List Int := (List.range n).map fun d => (idxQ E (stQ w1 w2 e d) : Int)
def rowsQ (E : List PQ) (k n : Nat) : List (List Int) := (E.take k).map fun e => rowQ w1 w2 E e n
structure InvQ (E : List PQ) : Prop where
  nd : E.Nodup
  rg : ∀ e ∈ E, (0 ≤ e.1 ∧ e.1 < (w1.length : Int)) ∧ 0 ≤ e.2 ∧ e.2 < (w2.length : Int)
  h0 : E[0]? = some (0, 0)
/-- the first k are looked at -/
def DoneQ (E : List PQ) (k n : Nat) : Prop := ∀ e ∈ E.take k, ∀ d : Nat, d < n → stQ w1 w2 e d ∈ E
end
section
variable {w1 w2 : List (List Int)} {l1 l2 : List Bool} {doors n k : Nat} {E : List PQ} {e p : PQ}
theorem pushQ_new (h : p ∉ E) : pushQ E p = E ++ [p] := if_neg h
theorem pushQ_old (h : p ∈ E) : pushQ E p = E := if_pos h
theorem pushQ_mem : p ∈ pushQ E p := by unfold pushQ; split <;> simp [*]
theorem pushQ_app : ∃ X, pushQ E p = E ++ X := by
  unfold pushQ; split
  · exact ⟨[], by simp⟩
  · exact ⟨_, rfl⟩
theorem pushesQ_succ : pushesQ w1 w2 E e (n + 1) = pushQ (pushesQ w1 w2 E e n) (stQ w1 w2 e n) := by
  unfold pushesQ; rw [List.range_succ, List.foldl_append]; rfl
theorem pushesQ_app : ∀ n, ∃ X, pushesQ w1 w2 E e n = E ++ X
  | 0 => ⟨[], by simp [pushesQ]⟩
  | n + 1 => by
    obtain ⟨X, hX⟩ := pushesQ_app n
    obtain ⟨Y, hY⟩ := pushQ_app (E := pushesQ w1 w2 E e n) (p := stQ w1 w2 e n)
    exact ⟨X ++ Y, by rw [pushesQ_succ, hY, hX, List.append_assoc]⟩
theorem pushesQ_mem : ∀ {n d}, d < n → stQ w1 w2 e d ∈ pushesQ w1 w2 E e n
  | n + 1, d, h => by
    rw [pushesQ_succ]
    by_cases q : d = n
    · rw [q]; exact pushQ_mem
    · obtain ⟨X, hX⟩ := pushQ_app (E := pushesQ w1 w2 E e n) (p := stQ w1 w2 e n)
      rw [hX]; exact List.mem_append_left _ (pushesQ_mem (by omega))
theorem InvQ.start (h1 : 0 < w1.length) (h2 : 0 < w2.length) : InvQ w1 w2 [(0, 0)] := ⟨by simp, fun e he => by rw [List.mem_singleton.mp he]; exact ⟨⟨by simp, by simpa using h1⟩, by simp, by simpa using h2⟩, rfl⟩
theorem InvQ.push (h : InvQ w1 w2 E) (hp : (0 ≤ p.1 ∧ p.1 < (w1.length : Int)) ∧ 0 ≤ p.2 ∧ p.2 < (w2.length : Int)) : InvQ w1 w2 (pushQ E p) := by
  unfold pushQ
  split
  · exact h
  · rename_i hn
    refine ⟨List.nodup_append.mpr ⟨h.nd, by simp, fun a ha b hb => ?_⟩, fun x hx => ?_, by rw [List.getElem?_append_left (List.getElem?_eq_some_iff.mp h.h0).1]; exact h.h0⟩
    · rw [List.mem_singleton.mp hb]; exact fun z => hn (z ▸ ha)
    · rcases List.mem_append.mp hx with z | z
      · exact h.rg x z
      · rw [List.mem_singleton.mp z]; exact hp
theorem InvQ.pushes (h : InvQ w1 w2 E) (k1 : HouseOk doors w1 l1) (k2 : HouseOk doors w2 l2) (he : e ∈ E) : ∀ n, n ≤ doors → InvQ w1 w2 (pushesQ w1 w2 E e n)
  | 0, _ => h
  | n + 1, hn => by
    rw [pushesQ_succ]
    obtain ⟨r1, r2⟩ := h.rg e he
    exact (h.pushes k1 k2 he n (by omega)).push ⟨step_in k1 r1 ⟨by omega, by omega⟩, step_in k2 r2 ⟨by omega, by omega⟩⟩
theorem InvQ.small (h : InvQ w1 w2 E) : E.length ≤ w1.length * w2.length := by
  have := nodup_sub_length (m := (List.range w1.length).flatMap fun a : Nat => (List.range w2.length).map fun b : Nat => ((a : Int), (b : Int))) h.nd (fun p hp => by
    obtain ⟨⟨a1, a2⟩, b1, b2⟩ := h.rg p hp
    refine List.mem_flatMap.mpr ⟨p.1.toNat, List.mem_range.mpr (by omega), List.mem_map.mpr ⟨p.2.toNat, List.mem_range.mpr (by omega), ?_⟩⟩
    rw [Int.toNat_of_nonneg a1, Int.toNat_of_nonneg b1])
  rw [List.length_flatMap] at this
  simpa [List.map_const', List.sum_replicate_nat] using this
theorem DoneQ.next (h : DoneQ w1 w2 E k n) (he : E[k]? = some e) : DoneQ w1 w2 (pushesQ w1 w2 E e n) (k + 1) n := fun x hx d hd => by
  obtain ⟨X, hX⟩ := pushesQ_app (w1 := w1) (w2 := w2) (E := E) (e := e) n
  have hkl := (List.getElem?_eq_some_iff.mp he).1
  have ht : (pushesQ w1 w2 E e n).take (k + 1) = E.take k ++ [e] := by
    rw [hX, List.take_append_of_le_length (by omega), take_snoc he]
  rw [ht] at hx
  rcases List.mem_append.mp hx with z | z
  · rw [hX]; exact List.mem_append_left _ (h x z d hd)
  · rw [List.mem_singleton.mp z]; exact pushesQ_mem hd
theorem rowQ_app {X : List PQ} (h : ∀ d : Nat, d < n → stQ w1 w2 e d ∈ E) : rowQ w1 w2 (E ++ X) e n = rowQ w1 w2 E e n := by
  unfold rowQ
  refine List.map_congr_left fun d hd => ?_
  rw [idx_app (h d (List.mem_range.mp hd))]
theorem rowsQ_app {X : List PQ} (h : DoneQ w1 w2 E k n) (hk : k ≤ E.length) : rowsQ w1 w2 (E ++ X) k n = rowsQ w1 w2 E k n := by
  unfold rowsQ
  rw [List.take_append_of_le_length hk]
  refine List.map_congr_left fun e he => rowQ_app (h e he)
theorem rowsQ_next (h : DoneQ w1 w2 E k n) (he : E[k]? = some e) : rowsQ w1 w2 (pushesQ w1 w2 E e n) (k + 1) n = rowsQ w1 w2 E k n ++ [rowQ w1 w2 (pushesQ w1 w2 E e n) e n] := by
  obtain ⟨X, hX⟩ := pushesQ_app (w1 := w1) (w2 := w2) (E := E) (e := e) n
  have hkl := (List.getElem?_eq_some_iff.mp he).1
  have h1 := rowsQ_app (X := X) h (by omega)
  rw [← hX] at h1
  rw [← h1]
  unfold rowsQ
  have : (pushesQ w1 w2 E e n)[k]? = some e := by rw [hX, List.getElem?_append_left hkl]; exact he
  rw [take_snoc this, List.map_append]; rfl
structure SrchQ (w1 w2 : List (List Int)) (E : List PQ) (k n : Nat) : Prop extends InvQ w1 w2 E where
  dn : DoneQ w1 w2 E k n
  le : k ≤ E.length
theorem SrchQ.start (h1 : 0 < w1.length) (h2 : 0 < w2.length) : SrchQ w1 w2 [(0, 0)] 0 n := ⟨InvQ.start h1 h2, fun e he => by simp at he, by simp⟩
theorem SrchQ.next (h : SrchQ w1 w2 E k doors) (k1 : HouseOk doors w1 l1) (k2 : HouseOk doors w2 l2) (he : E[k]? = some e) : SrchQ w1 w2 (pushesQ w1 w2 E e doors) (k + 1) doors := by
  obtain ⟨X, hX⟩ := pushesQ_app (w1 := w1) (w2 := w2) (E := E) (e := e) doors
  have hkl := (List.getElem?_eq_some_iff.mp he).1
  exact ⟨h.toInvQ.pushes k1 k2 (List.mem_of_getElem? he) doors (Nat.le_refl _), h.dn.next he, by rw [hX, List.length_append]; omega⟩
theorem mixS_ok (k1 : HouseOk doors w1 l1) (k2 : HouseOk doors w2 l2) : ∀ {f : Nat} {E : List PQ} {k : Nat}, SrchQ w1 w2 E k doors → w1.length * w2.length + 1 ≤ f + k → SrchQ w1 w2 (mixS w1 w2 doors f E k) (mixS w1 w2 doors f E k).length doors ∧ ∃ X, mixS w1 w2 doors f E k = E ++ X
  | 0, E, k, h, hf => by
    have := h.toInvQ.small
    have := h.le
    omega
  | f + 1, E, k, h, hf => by
    unfold mixS
    cases he : E[k]? with
    | none =>
      have hk : E.length ≤ k := by simpa using he
      have : k = E.length := by have := h.le; omega
      subst this
      exact ⟨h, [], by simp⟩
    | some e =>
      obtain ⟨a, X, hX⟩ := mixS_ok k1 k2 (h.next k1 k2 he) (show w1.length * w2.length + 1 ≤ f + (k + 1) by omega)
      obtain ⟨Y, hY⟩ := pushesQ_app (w1 := w1) (w2 := w2) (E := E) (e := e) doors
      exact ⟨a, Y ++ X, by show mixS w1 w2 doors f _ (k + 1) = _; rw [hX, hY, List.append_assoc]⟩
theorem mixE_ok (k1 : HouseOk doors w1 l1) (k2 : HouseOk doors w2 l2) : SrchQ w1 w2 (mixE w1 w2 doors) (mixE w1 w2 doors).length doors :=
  (mixS_ok k1 k2 (SrchQ.start (by have := k1.2.2.1; omega) (by have := k2.2.2.1; omega)) (by omega)).1
def mixW (w1 w2 : List (List Int)) (n : Nat) : List (List Int) := rowsQ w1 w2 (mixE w1 w2 n) (mixE w1 w2 n).length n
def b2 (b : Bool) : Int := if b = true then 1 else 0
def lampQ (l1 l2 table : List Bool) (e : PQ) : Bool := gt table (2 * b2 (gt l1 e.1) + b2 (gt l2 e.2))
def mixL (w1 w2 : List (List Int)) (l1 l2 table : List Bool) (n : Nat) : List Bool := (mixE w1 w2 n).map (lampQ l1 l2 table)
theorem mix_house (k1 : HouseOk doors w1 l1) (k2 : HouseOk doors w2 l2) (hs : (mixE w1 w2 doors).length ≤ 400) {table : List Bool} : HouseOk doors (mixW w1 w2 doors) (mixL w1 w2 l1 l2 table doors) := by
  have h := mixE_ok k1 k2
  have h0 := (List.getElem?_eq_some_iff.mp h.h0).1
  have hl : (mixW w1 w2 doors).length = (mixE w1 w2 doors).length := by simp [mixW, rowsQ]
  refine ⟨k1.1, k1.2.1, by rw [hl]; omega, by rw [hl]; omega, by rw [hl]; simp [mixL], fun row hr => ?_⟩
  obtain ⟨e, he, rfl⟩ := List.mem_map.mp hr
  refine ⟨by simp [rowQ], fun x hx => ?_⟩
  obtain ⟨d, hd, rfl⟩ := List.mem_map.mp hx
  have := idx_lt (h.dn e he d (List.mem_range.mp hd))
  rw [hl]; omega
theorem rowQ_grow : rowQ w1 w2 (pushesQ w1 w2 E e (n + 1)) e (n + 1) = rowQ w1 w2 (pushesQ w1 w2 E e n) e n ++ [(idxQ (pushesQ w1 w2 E e (n + 1)) (stQ w1 w2 e n) : Int)] := by
  obtain ⟨Y, hY⟩ := pushQ_app (E := pushesQ w1 w2 E e n) (p := stQ w1 w2 e n)
  have h1 := rowQ_app (X := Y) (E := pushesQ w1 w2 E e n) (e := e) (n := n) fun d hd => pushesQ_mem hd
  rw [← hY, ← pushesQ_succ] at h1
  rw [← h1]
  unfold rowQ
  rw [List.range_succ, List.map_append]; rfl
end
section
variable (w1 w2 : List (List Int)) (n : Nat)
def mixR : Nat → List PQ
  | 0 => [(0, 0)]
  | k + 1 => match (mixR k)[k]? with
    | none => mixR k
    | some e => pushesQ w1 w2 (mixR k) e n
end
section
variable {w1 w2 : List (List Int)} {l1 l2 : List Bool} {n k : Nat} {e : PQ}
theorem mixR_some (h : (mixR w1 w2 n k)[k]? = some e) : mixR w1 w2 n (k + 1) = pushesQ w1 w2 (mixR w1 w2 n k) e n := by
  show (match (mixR w1 w2 n k)[k]? with | none => mixR w1 w2 n k | some e => pushesQ w1 w2 (mixR w1 w2 n k) e n) = _
  rw [h]
theorem mixR_none (h : (mixR w1 w2 n k)[k]? = none) : mixR w1 w2 n (k + 1) = mixR w1 w2 n k := by
  show (match (mixR w1 w2 n k)[k]? with | none => mixR w1 w2 n k | some e => pushesQ w1 w2 (mixR w1 w2 n k) e n) = _
  rw [h]
theorem mixR_stay (h : (mixR w1 w2 n k).length ≤ k) : ∀ j, mixR w1 w2 n (k + j) = mixR w1 w2 n k
  | 0 => rfl
  | j + 1 => by
    have := mixR_stay h j
    rw [← Nat.add_assoc, mixR_none (by rw [this]; exact List.getElem?_eq_none (by omega)), this]
theorem mixS_R : ∀ {f k : Nat}, mixS w1 w2 n f (mixR w1 w2 n k) k = mixR w1 w2 n (k + f)
  | 0, k => rfl
  | f + 1, k => by
    unfold mixS
    cases he : (mixR w1 w2 n k)[k]? with
    | none =>
      show mixR w1 w2 n k = _
      rw [mixR_stay (by simpa using he)]
    | some e =>
      show mixS w1 w2 n f (pushesQ w1 w2 (mixR w1 w2 n k) e n) (k + 1) = _
      rw [← mixR_some he, mixS_R, Nat.add_right_comm, Nat.add_assoc]
theorem mixR_srch (k1 : HouseOk n w1 l1) (k2 : HouseOk n w2 l2) : ∀ k, SrchQ w1 w2 (mixR w1 w2 n k) (min k (mixR w1 w2 n k).length) n
  | 0 => by
    rw [Nat.zero_min]
    exact SrchQ.start (by have := k1.2.2.1; omega) (by have := k2.2.2.1; omega)
  | k + 1 => by
    have ih := mixR_srch k1 k2 k
    cases he : (mixR w1 w2 n k)[k]? with
    | none =>
      have hl : (mixR w1 w2 n k).length ≤ k := by simpa using he
      rw [mixR_none he, Nat.min_eq_right (by omega)]
      rw [Nat.min_eq_right hl] at ih; exact ih
    | some e =>
      have hl := (List.getElem?_eq_some_iff.mp he).1
      rw [Nat.min_eq_left (by omega)] at ih
      have := ih.next k1 k2 he
      rw [mixR_some he, Nat.min_eq_left this.le]; exact this
theorem mixR_end (k1 : HouseOk n w1 l1) (k2 : HouseOk n w2 l2) : mixR w1 w2 n (w1.length * w2.length) = mixE w1 w2 n := by
  have h := (mixR_srch k1 k2 (w1.length * w2.length)).toInvQ.small
  have h2 : mixE w1 w2 n = mixR w1 w2 n (0 + (w1.length * w2.length + 1)) := mixS_R (k := 0)
  rw [h2, Nat.zero_add, mixR_none (List.getElem?_eq_none h)]
end
end Ask
/-! Several clauses, each with a name of its own. -/
namespace Ask
open PySem PySem.Spec PyProof.Rows L2
abbrev Cl3 := Value × Nat × (Addr → Value → Option Addr → TS)
/-- the ends of a suite whose name is in place i: it goes at the end -/
def wipeD (D : Ends) (i : Nat) : Ends := ⟨fun z G => D.nx (z.set i none) G, D.rt, fun z G => D.bk (z.set i none) G, fun z G => D.ct (z.set i none) G⟩
def wAts (K : PySem.W.Frag) (Wo : WX) (D : Ends) : List Cl3 → WX
  | [] => Wo
  | q :: r => fun k d z G => ∃ b, PySem.W.exmOne K k q.1 = some b ∧ (b = true → ∀ a, G a = none → q.2.2 a k d (wipeD D q.2.1) (z.set q.2.1 (some (.ref a))) G) ∧ (b = false → wAts K Wo D r k d z G)
inductive HdsAs (X : Cx) : List ExceptHandler → List Cl3 → Prop
  | nil : HdsAs X [] []
  | cons {x n : Str} {c : Value} {i : Nat} {ts : Addr → Value → Option Addr → TS} {b₁ : Stmt} {su : List Stmt} {np pp : Pos} {hds : List ExceptHandler} {l : List Cl3} (hi : X.N[i]? = some n) (hl : X.env.kindOf n = some .local) (hc : Names X x c)
      (hsu : ∀ (a : Addr) (oe : Obj) (k : Value) (d : Option Addr) (pn : List (Addr × Obj)), Zc k d oe → (∃ fs, oe.data = .fields fs) → PSs (X.suite a ((a, oe) :: pn)) (b₁ :: su) (ts a k d)) (r : HdsAs X hds l) :
      HdsAs X (.ExceptHandler (some (.Name x np)) (some n) (b₁ :: su) pp :: hds) ((c, i, ts) :: l)
section
variable {X : Cx} {bd : List Stmt} {h₁ : ExceptHandler} {hds : List ExceptHandler} {l : List Cl3} {pp : Pos} {tb : WX → TS} {Wo : WX}
theorem ps_tryAts0 (hstk : X.stack = X.env :: X.outer) (hfm : X.env.frame = some X.env.locals) (hnd : X.N.Nodup) (tko : Takes X Wo)
    (hbd : ∀ (W : WX) (pn : List (Addr × Obj)) (xe : Value → Shared → Prop), Takes (X.tr pn xe) W → PassesOwn (model X.prog X.w) X.A X.env xe → PSs (X.tr pn xe) bd (tb W))
    (hhs : HdsAs X (h₁ :: hds) l) : PS X (.Try bd (h₁ :: hds) [] [] pp) (fun D z G => tb (wAts X.K Wo D l) D z G) := by
  refine ⟨fun ps u z G D I h => ?_⟩
  have oki := I.ok
  have frm : X.A.frames = some (X.env :: X.outer) := by rw [oki.frames, hstk]
  refine wpAny_Try_except ?_
  refine wpAny_mono ((hbd (wAts X.K Wo D l) (X.pn ++ ps) (fun e u₁ => wpAny (model X.prog X.w) X.A (noteFrame e X.env) (fun _ u₂ => wpAny (model X.prog X.w) X.A (setFlight e none) (fun _ u₃ =>
    wpAny (model X.prog X.w) X.A (handleBy e X.env (h₁ :: hds)) (SP X ps D) X.xe u₃) X.xe u₂) X.xe u₁) (fun v u' hx => ?_) PassesOwn.looking).run [] u z G D (I.toTry _) h) (fun f u1 hsp => ?_) (fun e u1 he => he)
  · obtain ⟨a, B, uI, ps', z', G', k, d, rfl, J', nb, up, sky, na, os, ag, w⟩ := hx
    have J : Inv X ps z' G' uI := J'.ofTry oki
    have skk : Sky B (X.env :: X.outer) a (Zc k d) X.env.locals u'.heap := by rw [← hstk]; exact sky
    show wpAny (model X.prog X.w) X.A (noteFrame (.ref a) X.env) _ _ _
    refine Sky.land Zc.steady frm hfm skk fun g3 fl3 up3 => ?_
    have J3 : Inv X ps z' G' { u' with heap := g3 } := J.landed nb fl3.1 (up.trans up3) os ag
    obtain ⟨oe3, fs3, he3, hz3, hd3⟩ := fl3.there
    have nofr : ∀ {g : Heap} {o : Obj} {fs : Array Value}, g.FunFrames B (X.env :: X.outer) → g.get? a = some o → o.data = .fields fs → a ∉ frs (X.env :: X.outer) := fun {g o fs} ff e dd hm => by
      obtain ⟨_, o', e', hnf⟩ := ff.mem hm
      rw [e] at e'; cases e'
      exact hnf _ dd
    have nfr := nofr fl3.2.2.1 he3 hd3
    have nL : a ≠ X.env.locals := fun q => nfr (List.mem_filterMap.mpr ⟨X.env, List.mem_cons_self, by rw [hfm, q]⟩)
    have nF : a ∉ X.fs := fun hm => by
      obtain ⟨e, he, q⟩ := List.mem_filterMap.mp hm
      exact nfr (List.mem_filterMap.mpr ⟨e, List.mem_cons_of_mem _ he, q⟩)
    have U3 := J3.suite he3 hd3 na nL nF
    have go : ∀ {hs2 : List ExceptHandler} {l2 : List Cl3}, HdsAs X hs2 l2 → wAts X.K Wo D l2 k d z' G' →
        wpAny (model X.prog X.w) X.A (handleBy (.ref a) X.env hs2) (SP X ps D) X.xe { u' with heap := g3 } := by
      intro hs2 l2 hk
      induction hk with
      | nil =>
        intro w
        refine wpAny_handleBy_nil ?_
        obtain ⟨k1, k2, k3, oe, fs, T, oT, ts', he, hz, hd, h1, hr⟩ := id fl3
        unfold PySem.passOn
        refine wpAny_bind (wpAny_field he hd h1 ?_)
        rw [if_neg (show ¬ ((Value.ref T == Value.none) = true) from by simp)]
        have fin : wpAny (model X.prog X.w) X.A (setFlight (.ref a) X.env.frame) (fun _ u4 => wpAny (model X.prog X.w) X.A (throw (.ref a) : Sem Flow) (SP X ps D) X.xe u4) X.xe { u' with heap := g3 } := by
          rw [hfm]
          refine HandSPX.setFlight_upZ fl3 fun g4 hg4 up4 => wpAny_throw (tko _ _ ?_)
          exact ⟨a, B, uI, ps, z', G', k, d, rfl, J, nb, (up.trans up3).trans up4, .inr (.inr (by rw [hstk]; exact hg4)), na, os, ag, w⟩
        first
          | exact wpAny_bind (wpAny_pure (wpAny_bind fin))
          | exact wpAny_bind fin
      | @cons x n c i ts b₁ su np pp' hds3 l3 hi hl hc hsu r ih =>
        intro w
        obtain ⟨b, hb1, hyes, hno⟩ := w
        refine wpAny_handleBy_cons (codeAny_handlers_test ?_) (by intro q; cases q)
        have lk : PySem.W.Looks (model X.prog X.w) g3 (typeOf (.ref a)) k := fun A Q E s kk q => wpAny_typeOf_ref (kk _ _ he3) (by rw [hz3.1]; exact q)
        have one := PySem.W.exm_one (M := model X.prog X.w) (J3.kIn) lk hb1
        have tst : ∀ {Q E : Value → Shared → Prop}, Q c { u' with heap := g3 } → wpAny (model X.prog X.w) (X.A.mark (some (.ref a))) (eval (.Name x np) X.env) Q E { u' with heap := g3 } := fun {Q E} q => by
          obtain ⟨hg, hdb, hm | ⟨hm, hv, hnn⟩⟩ := hc
          · exact ld_glob (X := X.suite a ((a, oe3) :: (X.pn ++ ps))) U3 hg hm q hdb
          · exact ld_blt (X := X.suite a ((a, oe3) :: (X.pn ++ ps))) U3 hg hm hv q hnn hdb
        refine tst (one.here ?_)
        cases b with
        | true =>
          refine codeAny_handlers_suite_as ?_
          refine HandSPX.lands_againZ fl3 fun g4 fl4 up4 => ?_
          have J4 : Inv X ps z' G' { u' with heap := g4 } := J.landed nb fl4.1 ((up.trans up3).trans up4) os ag
          obtain ⟨oe4, fs4, he4, hz4, hd4⟩ := fl4.there
          have U4 := J4.suite he4 hd4 na nL nF
          refine store_ok (X := X.suite a ((a, oe4) :: (X.pn ++ ps))) (v := .ref a) U4 hnd hi (.inl hl) rfl (fun u5 U5 => ?_) (.inr hl)
          refine wpAny_mono ((hsu a oe4 k d (X.pn ++ ps) hz4 ⟨_, hd4⟩).run [] u5 _ G' _ U5 (hyes rfl a na)) (fun f u6 hsp => ?_) (fun _ _ q => False.elim q)
          have gone : ∀ {z6 : L2.St} {G6 : Hp} {Q : Shared → Prop}, Inv (X.suite a ((a, oe4) :: (X.pn ++ ps))) [] z6 G6 u6 → (∀ u7, Inv X ps (z6.set i none) G6 u7 → Q u7) →
              wpAny (model X.prog X.w) X.A (do bindName X.env n .none; unbindBehindTheSuite X.env n pp') (fun _ u7 => Q u7) X.xe u6 := fun {z6 G6 Q} U6 hq => gone_ok (U6.unsuite oki) hnd hi hl hq
          cases f with
          | next =>
            obtain ⟨z6, G6, U6, q6⟩ := hsp
            exact gone U6 fun u7 J7 => ⟨_, _, J7, q6⟩
          | brk =>
            obtain ⟨z6, G6, U6, q6⟩ := hsp
            exact gone U6 fun u7 J7 => ⟨_, _, J7, q6⟩
          | cont =>
            obtain ⟨z6, G6, U6, q6⟩ := hsp
            exact gone U6 fun u7 J7 => ⟨_, _, J7, q6⟩
          | ret v =>
            obtain ⟨v6, z6, G6, U6, r6, q6⟩ := hsp
            exact gone U6 fun u7 J7 => ⟨_, _, _, J7, r6, q6⟩
        | false =>
          show wpAny _ X.A (handleBy (.ref a) X.env hds3) _ _ _
          exact ih (hno rfl)
    exact go hhs w
  · cases f with
    | next =>
      obtain ⟨z1, G1, J1, q⟩ := hsp
      exact wpAny_execs_nil ⟨z1, G1, J1.ofTry oki, q⟩
    | brk =>
      obtain ⟨z1, G1, J1, q⟩ := hsp
      exact ⟨z1, G1, J1.ofTry oki, q⟩
    | cont =>
      obtain ⟨z1, G1, J1, q⟩ := hsp
      exact ⟨z1, G1, J1.ofTry oki, q⟩
    | ret v =>
      obtain ⟨v1, z1, G1, J1, r, q⟩ := hsp
      exact ⟨v1, z1, G1, J1.ofTry oki, r, q⟩
end
abbrev Cl2 := Addr × Nat × (Addr → Value → Option Addr → TS)
def toC3 (q : Cl2) : Cl3 := (.ref q.1, q.2.1, q.2.2)
def tTryAts (K : PySem.W.Frag) (l : List Cl2) (tb : WX → TS) (Wo : WX) : TS := fun D z G => tb (wAts K Wo D (l.map toC3)) D z G
theorem ps_tryAts {K : PySem.W.Frag} {X : Cx} {bd : List Stmt} {h₁ : ExceptHandler} {hds : List ExceptHandler} (l : List Cl2) {pp : Pos} {tb : WX → TS} {Wo : WX} (hK : X.K = K) (hstk : X.stack = X.env :: X.outer) (hfm : X.env.frame = some X.env.locals) (hnd : X.N.Nodup) (tko : Takes X Wo)
    (hbd : ∀ (W : WX) (pn : List (Addr × Obj)) (xe : Value → Shared → Prop), Takes (X.tr pn xe) W → PassesOwn (model X.prog X.w) X.A X.env xe → PSs (X.tr pn xe) bd (tb W))
    (hhs : HdsAs X (h₁ :: hds) (l.map toC3)) : PS X (.Try bd (h₁ :: hds) [] [] pp) (tTryAts K l tb Wo) := hK ▸ ps_tryAts0 hstk hfm hnd tko hbd hhs
section
variable {K : PySem.W.Frag} {B : Fr} {s : Sl} {M : Ms}
def XiL (K : PySem.W.Frag) (B : Fr) (nx bk ct : Sl → Ms → Prop) (rt : Dt → Ms → Prop) (Ξ : Addr → Sl → Ms → Prop) : List Cl2 → Addr → Sl → Ms → Prop
  | [] => Ξ
  | q :: r => fun D s' M' => ∃ b, PySem.W.exmOne K (.ref D) (.ref q.1) = some b ∧ (b = true → ∀ a, WPs K B (q.2.2 a (.ref D) none) ⟨fun s M => nx (s.set q.2.1 none) M, rt, fun s M => bk (s.set q.2.1 none) M, fun s M => ct (s.set q.2.1 none) M⟩ (s'.set q.2.1 (some (.ref a))) M') ∧ (b = false → XiL K B nx bk ct rt Ξ r D s' M')
theorem w_tryAts {l : List Cl2} {tb : WX → TS} {Wo : WX} {Ξ : Addr → Sl → Ms → Prop} [q0 : XOkC K B Wo Ξ] {nx bk ct : Sl → Ms → Prop} {rt : Dt → Ms → Prop}
    (h : ∀ (B' : Fr) (W : WX), B'.T = fpM M → XOkC K B' W (XiL K B nx bk ct rt Ξ l) → WPs K B' (tb W) ⟨nx, rt, bk, ct⟩ s M) : WPs K B (tTryAts K l tb Wo) ⟨nx, rt, bk, ct⟩ s M := fun D G H σ ok L S => by
  have Ln : Lay K B G (M ++ []) H := by rw [List.append_nil]; exact L
  have back : ∀ {G' H' : Hp} {M' : Ms}, Lay K ⟨G, H, fpM M⟩ G' M' H' → Lay K B G' M' H' := fun {G' H' M'} L' => by
    have := Lay.back Ln L'
    rwa [List.append_nil] at this
  refine h ⟨G, H, fpM M⟩ (wAts K Wo D (l.map toC3)) rfl ⟨fun Cx s' M' G' H' σ' L' S' hx => ?_⟩ D G H σ ⟨fun s M G' H' σ k L' x S' => ok.1 s M G' H' σ k (back L') x S', fun v d M' G' H' k L' x r => ok.2.1 v d M' G' H' k (back L') x r, fun s M G' H' σ k L' x S' => ok.2.2.1 s M G' H' σ k (back L') x S', fun s M G' H' σ k L' x S' => ok.2.2.2 s M G' H' σ k (back L') x S'⟩ Ln.enter S
  have x : Ex G G' := L'.grown L.sub
  clear h
  induction l with
  | nil => exact q0.h Cx s' M' G' H' σ' (back L') S' hx
  | cons q r ih =>
    obtain ⟨b, hb, h1, h2⟩ := hx
    refine ⟨b, hb, fun e a ha => ?_, fun e => ih (h2 e)⟩
    refine h1 e a _ G' H' _ ⟨fun s M G2 H2 σ2 k L2 x2 S2 => ok.1 _ M G2 H2 _ k L2 (x.trans x2) (S2.wipe1 _), fun v d M G2 H2 k L2 x2 r => ok.2.1 v d M G2 H2 k L2 (x.trans x2) r, fun s M G2 H2 σ2 k L2 x2 S2 => ok.2.2.1 _ M G2 H2 _ k L2 (x.trans x2) (S2.wipe1 _), fun s M G2 H2 σ2 k L2 x2 S2 => ok.2.2.2 _ M G2 H2 _ k L2 (x.trans x2) (S2.wipe1 _)⟩ (back L') (S'.set _ (.ref a))
end
end Ask
namespace Ask
open PySem L2
section
variable {K : PySem.W.Frag} {B : Fr} {nx bk ct : Sl → Ms → Prop} {rt : Dt → Ms → Prop} {Ξ : Addr → Sl → Ms → Prop} {D C : Addr} {i : Nat} {ts : Addr → Value → Option Addr → TS} {r : List Cl2} {s : Sl} {M : Ms}
instance s_xiN : Stp (XiL K B nx bk ct rt Ξ [] D s M) (Ξ D s M) := ⟨id⟩
instance s_xiC : Stp (XiL K B nx bk ct rt Ξ ((C, i, ts) :: r) D s M) (∃ b, PySem.W.exmOne K (.ref D) (.ref C) = some b ∧ (b = true → ∀ a, WPs K B (ts a (.ref D) none) ⟨fun s M => nx (s.set i none) M, rt, fun s M => bk (s.set i none) M, fun s M => ct (s.set i none) M⟩ (s.set i (some (.ref a))) M) ∧ (b = false → XiL K B nx bk ct rt Ξ r D s M)) := ⟨id⟩
end
end Ask
/-! The pairs of a dict whose keys are tuples, walked in a comprehension. -/
namespace Ask
open PySem PySem.Spec PyProof.Rows L2
/-- the pairs of a locked dict of tuple keys, each a new tuple of the key's own tuple and the value -/
def ItP (d : Addr) (od : Obj) (l : List (List L2.Key × V)) : It :=
  ⟨fun i G => G d = some (.frz od (.dT l)) ∧ i < l.length,
   fun i G x G2 => ∃ t q k v, l[i]? = some (k, v) ∧ x = .ref t ∧ G t = none ∧ G q = some (.tup (k.map kV)) ∧ G2 = upd G t (.tup [.ref q, v]),
   fun i G => G d = some (.frz od (.dT l)) ∧ l.length ≤ i⟩
section
variable {X : Cx} {ps : List (Addr × Obj)} {z : L2.St} {G : Hp} {u : Shared} {d : Addr} {od : Obj} {l : List (List L2.Key × V)}
theorem frzP (I : Inv X ps z G u) (h : G d = some (.frz od (.dT l))) :
    (d == sysModules) = false ∧ u.heap.get? d = some od ∧ od.ExactDict ∧ ∃ (es : Array DictEntry) (n : Nat), od.data = .dict es n ∧ es.size = l.length ∧
      ∀ (i : Nat) (k : List L2.Key) (v : V), l[i]? = some (k, v) → ∃ (en : DictEntry) (q : Addr), es[i]? = some en ∧ en.key = .ref q ∧ G q = some (.tup (k.map kV)) ∧ RelV v en.val := by
  obtain ⟨hd, y, hs, xs, pr, o2, es, n, ho, hx, hdt, he, _⟩ := I.hok d _ h
  obtain rfl : od = o2 := Option.some.inj (hd.symm.trans ho)
  refine ⟨hs, hd, hx, es, n, hdt, ?_, fun i k v e => ?_⟩
  · have a1 : es.size = xs.length := size_of_entries he
    have a2 : l.length = xs.length := Paired.length pr
    omega
  · obtain ⟨b, hb, e1, e2, e3⟩ := paired_get pr e
    have w := entry_at he i
    rw [hb] at w
    exact ⟨_, b.2.1, w, rfl, e2, e3⟩
end
theorem turn_pairs {P : Program} {w : World} {K : PySem.W.Frag} {d : Addr} {od : Obj} {es : Array DictEntry} {n : Nat} {l : List (List L2.Key × V)} {el : List Expr} {kk : Nat} {tp : Pos} (it : Addr) (hod : od.data = .dict es n) :
    Turn P w K (.Tuple el kk tp) (ItP d od l) [it] it (fun i h => ∃ c1 c2, IsItemIter h it d i l.length n c1 c2) where
  mem := by simp
  obj := fun i h y b hb => by
    obtain rfl : b = it := by simpa using hb
    obtain ⟨c1, c2, e⟩ := y
    exact ⟨_, e, fun v q => nomatch q⟩
  keep := fun i h h2 y k => by
    obtain ⟨c1, c2, e⟩ := y
    exact ⟨c1, c2, k it (by simp) _ e⟩
  item := by
    intro X hP hw hK hc i ps u z G E I hf y hg
    subst hP hw hK
    obtain ⟨hd, hi⟩ := hg
    obtain ⟨hs, hgd, hx, es2, n2, hdt, hsz, ent⟩ := frzP I hd
    obtain ⟨rfl, rfl⟩ := dict_ep hod hdt
    obtain ⟨⟨k, v⟩, hkv⟩ : ∃ p, l[i]? = some p := ⟨l[i], List.getElem?_eq_getElem hi⟩
    obtain ⟨en, q, hen, hkey, hq, hv⟩ := ent i k v hkv
    obtain ⟨c1, c2, he⟩ := y
    rw [← hsz] at he
    have hlt : it < u.heap.objs.size := Heap.lt_size he
    have hi2 : i < es2.size := by omega
    have hen2 : es2[i] = en := Option.some.inj ((Array.getElem?_eq_getElem hi2).symm.trans hen)
    refine wpAny_pyNext_items_item_raw he ⟨od, hgd, hx, hdt⟩ hi2 fun h2 ho hT hz hk => ?_
    refine ⟨_, rfl, wpAny_letOwnedTupleGo_items (s := { u with heap := h2 }) ho fun h3 he3 sb => ?_⟩
    have hT3 : h3.get? u.heap.objs.size = some { cls := .type "tuple", data := .seq #[en.key, en.val] } := by rw [← hen2]; exact (sb.2 _ (Nat.ne_of_gt hlt)).trans hT
    have ok3 : ObjOk X.prog X.w (upd G u.heap.objs.size (.tup [.ref q, v])) h3 u.heap.objs.size (.tup [.ref q, v]) :=
      ⟨by show 2 ≤ sizeLine; decide, [en.key, en.val], .cons (by rw [hkey]; rfl) (.cons hv .nil), ⟨_, hT3, rfl, _, rfl⟩⟩
    have I3 : Inv X ps z (upd G u.heap.objs.size (.tup [.ref q, v])) { u with heap := h3 } :=
      I.turnedNew (t' := u.toks) (ch := [it]) (fun b ob hb e => (sb.2 b (by simpa using hb)).trans (hk b ob (by simpa using hb) e)) hf (Nat.le_refl _) ok3
    refine ⟨.ref u.heap.objs.size, _, I3, rfl, ⟨_, q, k, v, hkv, rfl, I.hok.fresh (Nat.le_refl _), hq, rfl⟩, ⟨es2[i].key, es2[i].val, by rw [← hsz]; exact he3⟩, fun b hb => ?_⟩
    obtain rfl : b = it := by simpa using hb
    rw [upd_ne (Nat.ne_of_lt hlt)]
    exact (hf b (by simp)).1
  done := by
    intro X hP hw hK hc i ps u z G E I hf y hg
    subst hP hw hK
    obtain ⟨hd, hi⟩ := hg
    obtain ⟨f0, f1, f2, f3, f4, f5⟩ := hf it (by simp)
    obtain ⟨hs, hgd, hx, es2, n2, hdt, hsz, ent⟩ := frzP I hd
    obtain ⟨rfl, rfl⟩ := dict_ep hod hdt
    obtain ⟨c1, c2, he⟩ := y
    rw [← hsz] at he
    exact wpAny_pyNext_items_end_raw (I.ok.hd hc) he ⟨od, hgd, hx, hdt⟩ (by omega) fun h2 eb => ⟨rfl, I.turned (t' := u.toks) (fun b ob hb e => eb b ob hb e) f0 f1 f3 f4 f5⟩
  self := fun A i u Q E y h => by
    obtain ⟨c1, c2, e⟩ := y
    exact PySem.W.kcp_self e h
/-- d.items() of a locked dict of tuple keys -/
def iPairs (td : TE) : TI := fun z G R => td z G fun x G1 => ∃ d od l, x = .ref d ∧ G1 d = some (.frz od (.dT l)) ∧ R (ItP d od l) G1
theorem pi_pairs {X : Cx} {e : Expr} {td : TE} {ap cp tp : Pos} {el : List Expr} {kk : Nat} (he : PE X e td) (hb : attributeBase e "items" X.env (eval e X.env) = eval e X.env := by rfl) (hl : (ap.endLine == cp.line) = true := by rfl) :
    PI X (.Tuple el kk tp) (.Call (.Attribute e "items" ap) [] [] cp) (iPairs td) := by
  refine ⟨fun ps u z G R I h => ?_⟩
  refine wpAny_Call_method (T := "dict") (id := "dict.items") hb rfl hl F.plainAttrs_dict F.slot_dict_items F.type_dict_items (thn (he.run ps u z G _ I h) fun v u1 ⟨x, G1, I1, rx, d, od, l, ex, hd, q⟩ => ?_)
  subst ex
  obtain rfl : v = Value.ref d := rx
  obtain ⟨hs, hgd, hx, es, n, hdt, hsz, ent⟩ := frzP I1 hd
  have raw : u1.heap.DictRaw d es n := ⟨od, hgd, hx, hdt⟩
  refine ⟨raw.typeIs, (fun a e => ⟨od, by cases e; exact hgd, hx.2.1⟩), ?_⟩
  have I2 : Inv X ps z G1 { u1 with heap := u1.heap.push { cls := .type "dict_items", data := .fields #[.ref d] } } := I1.kept (t' := u1.toks) fun b ob q => Heap.get?_push_of_some _ q
  have fin : wpAny (model X.prog X.w) X.A (pyIter (.ref u1.heap.objs.size)) (PIE X ps z (.Tuple el kk tp) R) X.xe { u1 with heap := u1.heap.push { cls := .type "dict_items", data := .fields #[.ref d] } } := by
    refine wpAny_pyIter_items_raw (d := d) (es := es) (ep := n) ⟨_, Heap.get?_push_size _ rfl, rfl, rfl⟩ (raw.at fun o e => Heap.get?_push_of_some _ e) (pi_one (tk := u1.toks) I2 _ (turn_pairs _ hdt) ⟨.none, .none, ?_⟩ q)
    rw [← hsz]
    exact Heap.get?_push_size _ rfl
  show wpAny _ _ (callWith cp (.builtin "dict.items") [.ref d] [] []) _ X.xe u1
  exact method_meetsIn F.slot_dict_items F.entry_dict_items rfl (PySem.evalArgs_none ⟨rfl, raw.typeIs, F.args_dict_items_1 _, _, meets_dict_items_raw d hs, ⟨es, n, raw⟩, fin⟩)
section
variable {K : PySem.W.Frag} {B : Fr} {Mr : Ms}
/-- a dict locked: it waits apart -/
theorem lay_lock {G H : Hp} {d : Addr} {c : Cell} (L : Lay K B G (.one d c :: Mr) H) (x : HO) : Lay K ⟨G, upd H d x, fpM Mr⟩ G Mr (upd H d x) :=
  ⟨fun a o e => by
    rw [upd_ne (ne_of_none e (L.free d (by rw [fpM_cons]; simp [Ent.fp])))]
    exact L.sub a o e, by have := L.nd; rw [fpM_cons] at this; exact (List.nodup_append.mp this).2.1, fun a h => L.free a (by rw [fpM_cons]; exact List.mem_append_right _ h), fun e he => (L.ats e (List.mem_cons_of_mem _ he)).ex (Ex.refl _) fun a ha o h => by
      have nd := L.nd
      rw [fpM_cons] at nd
      rw [upd_ne (show a ≠ d from fun z => (List.nodup_append.mp nd).2.2 d (by simp [Ent.fp]) a (mem_fpM he ha) z.symm)]; exact h, fun _ _ h _ => h, fun _ _ => rfl, fun _ h => .inl h, fun _ h => h⟩
theorem lay_unlock {G H G2 H2 : Hp} {M2 : Ms} {d : Addr} {c : Cell} {u x : HO} (L : Lay K B G (.one d c :: Mr) H) (hu : H d = some u) (L2 : Lay K ⟨G, upd H d x, fpM Mr⟩ G2 (M2 ++ Mr) H2) : Lay K B G2 (M2 ++ .one d c :: Mr) (upd H2 d u) := by
  have nd := L.nd
  rw [fpM_cons] at nd
  have hdr : d ∉ fpM Mr := fun z => (List.nodup_append.mp nd).2.2 d (by simp [Ent.fp]) d z rfl
  have hf : G d = none := L.free d (by rw [fpM_cons]; simp [Ent.fp])
  have hG2 : G2 d = none := by rw [L2.gfix d (by show upd H d x d ≠ none; rw [upd_same]; simp)]; exact hf
  have new : ∀ a, a ∈ fpM (M2 ++ Mr) → (a ∈ fpM Mr ∨ H a = none) ∧ a ≠ d := fun a ha => by
    have h : a ∈ fpM Mr ∨ upd H d x a = none := L2.new a ha
    by_cases e : a = d
    · subst e
      rcases h with h | h
      · exact absurd h hdr
      · rw [upd_same] at h; cases h
    · rw [upd_ne e] at h; exact ⟨h, e⟩
  have Lc : Lay K B G (Mr ++ [.one d c]) H := L.perm (List.perm_append_singleton (Ent.one d c) Mr).symm
  have Lz : Lay K B G2 ((M2 ++ Mr) ++ [.one d c]) (upd H2 d u) := by
    refine Lay.back (Ma := Mr) Lc ⟨fun a o e => ?_, L2.nd, L2.free, fun e he => ?_, fun a o e ha => ?_, fun a h => ?_, fun a ha => (new a ha).1, fun a h => L2.tin a h⟩
    · rw [upd_ne (ne_of_none e hG2)]; exact L2.sub a o e
    · exact (L2.ats e he).ex (Ex.refl _) fun a ha o h => by rw [upd_ne (new a (mem_fpM he ha)).2]; exact h
    · by_cases q : a = d
      · subst q; rw [upd_same, ← hu]; exact e
      · rw [upd_ne q]
        exact L2.keep a o (by show upd H d x a = some o; rw [upd_ne q]; exact e) ha
    · exact L2.gfix a (by
        show upd H d x a ≠ none
        by_cases q : a = d
        · subst q; rw [upd_same]; simp
        · rw [upd_ne q]; exact h)
  refine Lz.perm ?_
  rw [List.append_assoc]
  exact (List.perm_append_singleton (Ent.one d c) Mr).append_left M2
end
section
variable {K : PySem.W.Frag} {B : Fr} {M Mr : Ms} {s : Sl} {Φ : Dt → Ms → Prop}
theorem rep_kv {κ : Type} {G : Hp} : ∀ {x : List (κ × V)} {y : List (κ × Dt)} {i : Nat} {k : κ} {v : V}, RepKV K G x y → x[i]? = some (k, v) → ∃ d, y[i]? = some (k, d) ∧ Rep K G v d
  | _, _, i, _, _, .nil, h => by simp at h
  | _, _, 0, _, _, .cons r t, h => by
    simp only [List.getElem?_cons_zero, Option.some.injEq, Prod.mk.injEq] at h
    obtain ⟨rfl, rfl⟩ := h
    exact ⟨_, rfl, r⟩
  | _, _, i + 1, _, _, .cons r t, h => by
    rw [List.getElem?_cons_succ] at h
    obtain ⟨d, h1, h2⟩ := rep_kv t h
    exact ⟨d, by rw [List.getElem?_cons_succ]; exact h1, h2⟩
theorem rep_ints {G : Hp} : ∀ {l : List Int}, RepAll K G (l.map V.int) (l.map Dt.int)
  | [] => .nil
  | _ :: _ => .cons (.int _) rep_ints
/-- what is handed back of the notes: each word in a new list -/
def saidL (qs : List Addr) (m : List (List Int × Bool)) : List Dt := List.zipWith (fun q a => Dt.tup [.ref q, .bl a.2]) qs m
def tSaid (td : TE) : TE := tLockE (tLc (iPairs td) (gTup K 2 (gCons (gName 1) (gCons (gName 2) gNil))) tYes (tTup (tCons (tCB (rListOf K) (tCons (tVar 1) tNil)) (tCons (tVar 2) tNil))) [1, 2])
theorem e_said {n : Addr} {m : List (List Int × Bool)} {td : TE} {x0 x1 x2 : Option Dt} (hp : M.Perm (.one n (.dT (entT Dt.bl m)) :: Mr)) (hm : m.length < 16777216)
    (htd : ∀ B', EvW K B' td [x0, x1, x2] Mr fun x M1 => x = .ref n ∧ M1 = Mr)
    (k : ∀ p qs, p ∉ B.T → (∀ q ∈ qs, q ∉ B.T) → qs.length = m.length → Φ (.ref p) (.one p (.lst (saidL qs m)) :: .many qs (m.map fun e => e.1.map Dt.int) :: M)) : EvW K B (tSaid (K := K) td) [x0, x1, x2] M Φ := fun G Hh σ Q L S q => by
  have L0 := L.perm hp
  obtain ⟨ws, e, r⟩ := L0.ats _ List.mem_cons_self
  refine ⟨n, .dT ws, e, True.intro, fun od => ?_⟩
  have nd0 := L0.nd
  rw [fpM_cons] at nd0
  have hnn : n ∉ fpM Mr := fun z => (List.nodup_append.mp nd0).2.2 n (by simp [Ent.fp]) n z rfl
  have LL := lay_lock L0 (.frz od (.dT ws))
  refine htd _ G _ σ _ LL S fun v x M1 G1 H1 LA e1 r1 hx => ?_
  obtain ⟨rfl, rfl⟩ := hx
  have hv : v = V.ref n := r1.refOf
  refine ⟨n, od, ws, hv, LA.keep n _ upd_same hnn, fun D hD => ?_⟩
  have rl : ws.length = m.length := by rw [r.len, entT_len]
  let I : Nat → Hp → Prop := fun i H => ∃ ps G2, ps.length = i ∧ Lay K ⟨G, upd Hh n (.frz od (.dT ws)), fpM M1⟩ G2 (.one D (.lst (saidL ps (m.take i))) :: .many ps ((m.take i).map fun e => e.1.map Dt.int) :: M1) H ∧ Ex G1 G2
  refine ⟨fun i k H => k = m.length - i ∧ i ≤ m.length ∧ I i H, ⟨_, rfl, Nat.zero_le _, [], G1, rfl, LA.block0.laidM (c := .lst []) hD ⟨[], upd_same, .nil⟩, Ex.refl _⟩, ?_⟩
  rintro i k' H2 ⟨rfl, hi, ps, G2, hpl, L2, x2⟩
  have hn2 : H2 n = some (.frz od (.dT ws)) := L2.keep n _ upd_same hnn
  by_cases qi : i < m.length
  · refine .inr ⟨⟨hn2, by omega⟩, fun H' => I (i + 1) H', fun H' p => ⟨m.length - (i + 1), by omega, rfl, qi, p⟩, fun x H' hy => ?_⟩
    obtain ⟨t, q0, kk, v0, hkv, rfl, ht, hq0, rfl⟩ := hy
    obtain ⟨d0, hd0, rd0⟩ := rep_kv r hkv
    have hmi : m[i]? = some m[i] := List.getElem?_eq_getElem qi
    have hz : (kT m[i].1, Dt.bl m[i].2) = (kk, d0) := by
      have : (entT Dt.bl m)[i]? = some (kT m[i].1, Dt.bl m[i].2) := by unfold entT; rw [List.getElem?_map, hmi]; rfl
      exact Option.some.inj (this.symm.trans hd0)
    cases hz
    have L3 := L2.laid0 (o := .tup [.ref q0, v0]) ht
    match σ, S.len with
    | [a0, a1, a2], _ =>
    refine ⟨t, [.ref q0, v0], rfl, SqT.of upd_same, rfl, .ref q0, [v0], rfl, v0, [], rfl, rfl, rfl, ?_⟩
    refine ⟨.ref q0, rfl, q0, _, rfl, .inr (SqT.of (H := upd H2 t (.tup [.ref q0, v0])) (by rw [upd_ne (ne_of_none hq0 ht)]; exact hq0)), fun l hl => ⟨v0, rfl, by show 2 ≤ sizeLine; decide, fun p hp2 => ?_⟩⟩
    have L4 := L3.laidM (c := .lst (m[i].1.map Dt.int)) hl ⟨m[i].1.map V.int, by rw [upd_same, tup_keys], rep_ints⟩
    have L5 := L4.laid (o := .tup [.ref l, v0]) hp2
    obtain ⟨us, hus, tus⟩ := L5.ats (.one D (.lst (saidL ps (m.take i)))) (by simp)
    have hsl : (saidL ps (m.take i)).length = i := by unfold saidL; rw [List.length_zipWith, List.length_take]; omega
    have x5 : Ex G2 (upd G2 p (.tup [.ref l, v0])) := Ex.new (L4.freshG hp2)
    refine ⟨us, hus, sl_lt (by rw [tus.len, hsl]; omega), ps ++ [l], _, by simp [hpl], ?_, x2.trans x5⟩
    have La := L5.perm (List.Perm.swap _ _ _)
    have hsn : saidL (ps ++ [l]) (m.take (i + 1)) = saidL ps (m.take i) ++ [.tup [.ref l, .bl m[i].2]] := by
      unfold saidL
      rw [take_snoc hmi, List.zipWith_append (by rw [List.length_take]; omega)]; rfl
    have Lb := La.change (o := .lst (us ++ [.ref p])) (c' := .lst (saidL (ps ++ [l]) (m.take (i + 1)))) ⟨_, upd_same, by
      rw [hsn]
      exact tus.append (.one (.tup upd_same (.cons (.ref l) (.cons (rd0.mono ((e1.trans x2).trans x5)) .nil))))⟩
    have Ld := Lb.perm (List.Perm.trans (List.Perm.swap _ _ _) ((List.Perm.swap _ _ _).cons _))
    have hmp : (m.take (i + 1)).map (fun e => e.1.map Dt.int) = (m.take i).map (fun e => e.1.map Dt.int) ++ [m[i].1.map Dt.int] := by rw [take_snoc hmi, List.map_append]; rfl
    rw [hmp]
    exact (Lay.merge Ld).perm (List.Perm.swap _ _ _)
  · have hie : i = m.length := by omega
    subst hie
    refine .inl ⟨⟨hn2, by omega⟩, hn2, ?_⟩
    rw [List.take_length] at L2
    have LZ := lay_unlock L0 e (M2 := [.one D (.lst (saidL ps m)), .many ps (m.map fun e => e.1.map Dt.int)]) L2
    have LW : Lay K B G2 (.one D (.lst (saidL ps m)) :: .many ps (m.map fun e => e.1.map Dt.int) :: M) _ := LZ.perm ((hp.symm.cons _).cons _)
    have nd := LW.nd
    rw [fpM_cons, fpM_cons, ← List.append_assoc] at nd
    have far : ∀ a, a ∈ (Ent.one D (.lst (saidL ps m))).fp ++ (Ent.many ps (m.map fun e => e.1.map Dt.int)).fp → a ∉ B.T := fun a ha z => (List.nodup_append.mp nd).2.2 a ha a (L.tin a z) rfl
    exact q _ _ _ G2 _ LW (e1.trans x2) (.ref D) (k D ps (far D (by simp [Ent.fp])) (fun q hq => far q (by simp [Ent.fp, hq])) hpl)
end
end Ask
/-! Books handed to functions; calls that change one thing and look at others. -/
namespace Ask
open PySem L2
section
variable {K : PySem.W.Frag} {B : Fr} {G H : Hp} {M Ma Mr : Ms}
theorem fpP {M N : Ms} (h : M.Perm N) : (fpM M).Perm (fpM N) := h.flatMap_right _
theorem cell_mem {a : Addr} {es : List Dt} (h : LstD M es (.ref a)) : a ∈ fpM M := by
  cases h with
  | one h => exact mem_fpM h (by simp [Ent.fp])
  | row i h1 h2 h3 => exact mem_fpM h1 (by simpa [Ent.fp] using List.mem_of_getElem? h2)
theorem Lay.viewB (L : Lay K B G M H) (hp : M.Perm (Ma ++ Mr)) (hna : ∀ a ∈ fpM Ma, ∀ es, ¬ LstD M es (.ref a)) : Lay K ⟨viewG G H M, H, fpM Ma⟩ (viewG G H M) Ma H := by
  have Lp := L.perm hp
  have nd := Lp.nd
  rw [fpM_app] at nd
  exact ⟨L.viewLay.sub, (List.nodup_append.mp nd).1, fun a ha => by
    unfold viewG
    rw [if_neg fun ⟨es, q⟩ => hna a ha es q]
    exact Lp.free a (by rw [fpM_app]; exact List.mem_append_left _ ha), fun e he => (Lp.ats e (List.mem_append_left _ he)).ex L.viewEx fun _ _ _ h => h, fun _ _ h _ => h, fun _ _ => rfl, fun _ h => .inl h, fun _ h => h⟩
theorem Lay.unviewB {G2 H2 : Hp} {Mb : Ms} (L : Lay K B G M H) (hp : M.Perm (Ma ++ Mr)) (hna : ∀ a ∈ fpM Ma, ∀ es, ¬ LstD M es (.ref a)) (L' : Lay K ⟨viewG G H M, H, fpM Ma⟩ G2 Mb H2) (hf : fpM Mb = fpM Ma)
    (less : (∀ a o, G2 a = some o → (∀ xs, o ≠ .lst xs) → Ask.unview G2 M a = some o) → ∀ e ∈ Mb, EntAt K G2 H2 e → EntAt K (Ask.unview G2 M) H2 e) :
    Lay K B (Ask.unview G2 M) (Mb ++ Mr) H2 ∧ Ex G (Ask.unview G2 M) ∧ ∀ a o, G2 a = some o → (∀ xs, o ≠ .lst xs) → Ask.unview G2 M a = some o := by
  have Lp := L.perm hp
  have nd := Lp.nd
  rw [fpM_app] at nd
  obtain ⟨n1, n2, n3⟩ := List.nodup_append.mp nd
  have live : ∀ a, H a ≠ none → G2 a = viewG G H M a := fun a h => L'.gfix a h
  have nocell : ∀ a, (¬ ∃ es, LstD M es (.ref a)) → viewG G H M a = G a := fun a h => by unfold viewG; rw [if_neg h]
  have un : ∀ a, (¬ ∃ es, LstD M es (.ref a)) → Ask.unview G2 M a = G2 a := fun a h => by unfold Ask.unview; rw [if_neg h]
  have un0 : ∀ a, (∃ es, LstD M es (.ref a)) → Ask.unview G2 M a = none := fun a h => by unfold Ask.unview; rw [if_pos h]
  have ex : Ex G (Ask.unview G2 M) := fun a o e => by
    have hn : ¬ ∃ es, LstD M es (.ref a) := fun ⟨es, q⟩ => by rw [L.cellG q] at e; cases e
    rw [un a hn, live a (by rw [L.sub a o e]; simp), nocell a hn]; exact e
  have lss : ∀ a o, G2 a = some o → (∀ xs, o ≠ .lst xs) → Ask.unview G2 M a = some o := fun a o e hne => by
    have hn : ¬ ∃ es, LstD M es (.ref a) := fun ⟨es, q⟩ => by
      obtain ⟨ws, e2, _⟩ := L.cellA q
      have := live a (by rw [e2]; simp)
      unfold viewG at this
      rw [if_pos ⟨es, q⟩, e, e2] at this
      exact hne ws (Option.some.inj this)
    rw [un a hn]; exact e
  have mem : ∀ a, a ∈ fpM (Mb ++ Mr) ↔ a ∈ fpM M := fun a => by rw [fpM_app, hf, ← fpM_app]; exact (fpP hp).mem_iff.symm
  refine ⟨⟨fun a o e => ?_, by rw [fpM_app, hf]; exact nd, fun a ha => ?_, fun e he => ?_, fun a o h t => ?_, fun a h => ?_, fun a ha => L.new a ((mem a).mp ha), fun a ha => (mem a).mpr (L.tin a ha)⟩, ex, lss⟩
  · by_cases q : ∃ es, LstD M es (.ref a)
    · rw [un0 a q] at e; cases e
    · rw [un a q] at e; exact L'.sub a o e
  · by_cases q : ∃ es, LstD M es (.ref a)
    · exact un0 a q
    · have hm := (mem a).mp ha
      rw [un a q, live a (fun z => L.freshM z hm), nocell a q]; exact L.free a hm
  · rcases List.mem_append.mp he with he | he
    · exact less lss e he (L'.ats e he)
    · exact (Lp.ats e (List.mem_append_right _ he)).ex ex fun a ha o h => L'.keep a o h fun z => n3 a z a (mem_fpM he ha) rfl
  · exact L'.keep a o (L.keep a o h t) fun z => by
      rcases L.new a ((fpP hp).mem_iff.mpr (by rw [fpM_app]; exact List.mem_append_left _ z)) with q | q
      · exact t q
      · rw [q] at h; cases h
  · have hH : H a ≠ none := fun q => h (L.fresh0 q)
    by_cases q : ∃ es, LstD M es (.ref a)
    · rw [un0 a q, ← L.gfix a h]
      obtain ⟨es, q⟩ := q
      exact (L.cellG q).symm
    · rw [un a q, live a hH, nocell a q]; exact L.gfix a h
end
section
variable {K : PySem.W.Frag} {B : Fr} {s : Sl} {M M' : Ms} {Φ : Dt → Ms → Prop} {te : TE} {t : TA} {n : Nat} {ds : List Dt} {W : WX} {Ξ : Addr → Sl → Ms → Prop} {C CB X : Addr} {m : Str} {R : Int → Notes → List Dt → Except Addr (Dt × Notes) → Prop}
theorem kv_less {G G' : Hp} (h : ∀ a o, G a = some o → (∀ xs, o ≠ .lst xs) → G' a = some o) {κ : Type} : ∀ {x : List (κ × V)} {y : List (κ × Dt)}, RepKV K G x y → (∀ e ∈ y, noLst e.2 = true) → RepKV K G' x y
  | _, _, .nil, _ => .nil
  | _, _, .cons r t, q => .cons (Rep.less h r (q _ List.mem_cons_self)) (kv_less h t fun e he => q e (List.mem_cons_of_mem _ he))
theorem book_less {G2 H2 Gu : Hp} {b nn : Addr} {doors : Int} {ms : Notes} (h : ∀ a o, G2 a = some o → (∀ xs, o ≠ .lst xs) → Gu a = some o) : ∀ e ∈ bookM CB b nn doors ms, EntAt K G2 H2 e → EntAt K Gu H2 e := fun e he q => by
  rcases List.mem_cons.mp he with rfl | he
  · obtain ⟨dx, vs, a1, a2, r⟩ := q
    exact ⟨dx, vs, a1, a2, RepAll.less h r rfl⟩
  · rw [List.mem_singleton.mp he] at q ⊢
    obtain ⟨ws, a1, r⟩ := q
    exact ⟨ws, a1, kv_less h r fun e he => by
      obtain ⟨x, _, rfl⟩ := List.mem_map.mp he; rfl⟩
theorem book_nocell {b nn : Addr} {doors : Int} {ms : Notes} (L : (fpM M).Nodup) (hb : Ent.one b (bookI CB nn doors) ∈ M) (hd : Ent.one nn (bookD ms) ∈ M) : ∀ a ∈ fpM (bookM CB b nn doors ms), ∀ es, ¬ LstD M es (.ref a) := fun a ha es q => by
  obtain ⟨Mr, hp⟩ := perm_two hb hd (fun e => by cases e)
  have nd : (fpM (.one b (bookI CB nn doors) :: .one nn (bookD ms) :: Mr)).Nodup := (fpP hp).nodup_iff.mp L
  simp only [fpM_cons, Ent.fp, List.singleton_append, List.nodup_cons, List.mem_cons, not_or] at nd
  have ha2 : a = b ∨ a = nn := by simpa [fpM, Ent.fp] using ha
  have hr : ∀ x ∈ M, x = .one b (bookI CB nn doors) ∨ x = .one nn (bookD ms) ∨ x ∈ Mr := fun x hx => by
    have := hp.mem_iff.mp hx
    simpa using this
  have nr : a ∉ fpM Mr := by
    rcases ha2 with rfl | rfl
    · exact nd.1.2
    · exact nd.2.1
  cases q with
  | one h =>
    rcases hr _ h with e | e | e
    · cases e
    · cases e
    · exact nr (mem_fpM e (by simp [Ent.fp]))
  | row i h1 h2 h3 =>
    rcases hr _ h1 with e | e | e
    · cases e
    · cases e
    · exact nr (mem_fpM e (by simpa [Ent.fp] using List.mem_of_getElem? h2))
/-- what a book's method or a function of a book comes to, other things looked at -/
def CallBV (M : Ms) (CB : Addr) (R : Int → Notes → List Dt → Except Addr (Dt × Notes) → Prop) (n : Nat) (ds : List Dt) (A : Dt → Ms → Prop) (E : Addr → Prop) : Prop :=
  ∃ b nn doors ms as es r, ds = .ref b :: as ∧ ds.length = n ∧ Ent.one b (bookI CB nn doors) ∈ M ∧ Ent.one nn (bookD ms) ∈ M ∧ View M as es ∧ R doors ms es r ∧ (es = as ∨ ∀ d m', r = .ok (d, m') → noLst d = true) ∧
    (∀ d m', r = .ok (d, m') → ∃ M', Upd M nn (bookD ms) (bookD m') M' ∧ A d M') ∧ ∀ X, r = .error X → E X
theorem call_bv [z : XOkC K B W Ξ] {M2 : Ms} (c : CallBV M2 CB R n ds Φ fun X => Ξ X s M2) {G H : Hp} {σ : L2.St} {vs : List V} {Q : VK} (L2 : Lay K B G M2 H) (S : Slots K G σ s) (rp : RepAll K G vs ds)
    (q : ∀ v d M' G' H', Lay K B G' M' H' → Ex G G' → Rep K G' v d → Φ d M' → Q v H') : spG K n (fnB CB R) vs H Q (fun cls d H => W cls d σ H) := by
  obtain ⟨b, nn, doors, ms, as, es, r, rfl, hn, hb, hd, hv, hr, hl, k1, k2⟩ := c
  obtain ⟨Mr, hp⟩ := perm_two hb hd (fun e => by cases e)
  rcases hl with rfl | hl
  · refine call_core (n := n) (F := fnB CB R) (ds := .ref b :: es) (Ma := bookM CB b nn doors ms) (Mr := Mr) (Φ := fun d M3 => ∃ m', r = .ok (d, m') ∧ M3 = bookM CB b nn doors m' ++ Mr) (Ξc := fun X s3 M3 => s3 = s ∧ r = .error X ∧ M3 = bookM CB b nn doors ms ++ Mr)
      (fun X s3 M3 G3 H3 σ3 L3 S3 k => ?_) hn hp ⟨b, nn, doors, ms, es, r, rfl, rfl, hr, fun d m' e => ⟨m', e, rfl⟩, fun X e => ⟨rfl, e, rfl⟩⟩ L2 S rp fun v3 d M3 G3 H3 L3 e3 r3 k => ?_
    · obtain ⟨rfl, e, rfl⟩ := k
      exact z.h X s3 M2 G3 H3 σ3 (L3.perm hp.symm) S3 (k2 X e)
    · obtain ⟨m', e, rfl⟩ := k
      obtain ⟨M4, u, ha⟩ := k1 d m' e
      exact q v3 d M4 G3 H3 (L3.perm (u.cons_perm hp L2.nd).symm) e3 r3 ha
  · have hna := book_nocell L2.nd hb hd
    cases rp with
    | cons r0 rs =>
    refine ⟨(RepAll.cons r0 rs).len.trans hn, viewG G H M2, bookM CB b nn doors ms, .ref b :: es, fun d' M' => ∃ m', r = .ok (d', m') ∧ M' = bookM CB b nn doors m', fun X M' => r = .error X ∧ M' = bookM CB b nn doors ms, L2.viewB hp hna, .cons (r0.mono L2.viewEx) (hv.rep L2 rs), ⟨b, nn, doors, ms, es, r, rfl, rfl, hr, fun d m' e => ⟨m', e, rfl⟩, fun X e => ⟨e, rfl⟩⟩, fun v d' M' G' H' L' r' kk => ?_, fun X M' G' H' L' kk => ?_⟩
    · obtain ⟨m', e, rfl⟩ := kk
      obtain ⟨M4, u, ha⟩ := k1 _ m' e
      obtain ⟨L3, e3, le⟩ := L2.unviewB hp hna L' rfl book_less
      exact q _ _ _ _ _ (L3.perm (u.cons_perm hp L2.nd).symm) e3 (r'.less le (hl _ _ e)) ha
    · obtain ⟨e, rfl⟩ := kk
      obtain ⟨L3, e3, le⟩ := L2.unviewB hp hna L' rfl book_less
      exact z.h X s M2 _ H' σ (L3.perm hp.symm) (S.mono e3) (k2 X e)
instance (priority := high) s_methBV [z : XOkC K B W Ξ] : Stp (EvW K B (tMethS CB m (spG K n (fnB CB R)) (WE W) te t) s M Φ) (EvW K B te s M fun o M1 => BookAt M1 CB m o (EvA K B t s M1 fun as M2 => CallBV M2 CB R n (o :: as) Φ fun X => Ξ X s M2)) := ⟨fun h => fun G H σ Q L S q =>
  h G H σ _ L S fun v o M1 G1 H1 L1 e1 r1 h1 => by
    obtain ⟨b, nn, doors, rfl, hb, hm, h1⟩ := h1
    obtain ⟨dx, ws, ea, l, _⟩ := L1.ats _ hb
    exact ⟨b, dx, _, r1.refOf, ea, lookF_none hm, h1 G1 H1 σ _ L1 (S.mono e1) fun vs as M2 G2 H2 L2 e2 rs c => call_bv c L2 (S.mono (e1.trans e2)) (.cons (r1.mono e2) rs) fun v3 d M3 G3 H3 L3 e3 => q v3 d M3 G3 H3 L3 ((e1.trans e2).trans e3)⟩⟩
instance s_fnBV [z : XOkC K B W Ξ] : Stp (EvW K B (tCallS (spG K n (fnB CB R)) (WE W) t) s M Φ) (EvA K B t s M fun ds M1 => CallBV M1 CB R n ds Φ fun X => Ξ X s M1) := ⟨fun h => fun G H σ Q L S q =>
  h G H σ _ L S fun vs ds M1 G1 H1 L1 e1 rs c => call_bv c L1 (S.mono e1) rs fun v3 d M3 G3 H3 L3 e3 => q v3 d M3 G3 H3 L3 (e1.trans e3)⟩
class NoB (r : Except Addr (Dt × Notes)) : Prop where h : ∀ d m', r = .ok (d, m') → noLst d = true
instance nob_ok {d : Dt} {ms : Notes} [h : NoV d] : NoB (.ok (d, ms)) := ⟨fun _ _ e => by cases e; exact h.h⟩
instance nob_er : NoB (.error C) := ⟨fun _ _ e => by cases e⟩
instance nob_if {p : Prop} [Decidable p] {a b : Except Addr (Dt × Notes)} [h : NoB a] [k : NoB b] : NoB (if p then a else b) := ⟨fun d m' e => by
  split at e
  · exact h.h d m' e
  · exact k.h d m' e⟩
section
variable {b nn : Addr} {doors : Int} {ms m' : Notes} {as es : List Dt} {A : Dt → Ms → Prop} {E : Addr → Prop} {Q pre : Prop} {r : Except Addr (Dt × Notes)} {d : Dt}
instance s_bv0 [f : FindC M b (bookI CB nn doors)] [g : FindC M nn (bookD ms)] [l : LenN (.ref b :: as) n] [h : FnB R doors ms as pre r] : Stp (CallBV M CB R n (.ref b :: as) A E) (Pre pre (ResB M nn ms r A E)) := ⟨fun k => ⟨b, nn, doors, ms, as, as, r, rfl, l.h, f.h, g.h, .refl _, h.h k.1, .inl rfl, k.2.1, k.2.2⟩⟩
instance (priority := low) s_bv1 [f : FindC M b (bookI CB nn doors)] [g : FindC M nn (bookD ms)] [l : LenN (.ref b :: as) n] [w : ViewC M as es] [h : FnB R doors ms es pre r] [v : NoB r] : Stp (CallBV M CB R n (.ref b :: as) A E) (Pre pre (ResB M nn ms r A E)) := ⟨fun k => ⟨b, nn, doors, ms, as, es, r, rfl, l.h, f.h, g.h, w.h, h.h k.1, .inr v.h, k.2.1, k.2.2⟩⟩
end
/-- all that was said, each word in a list of its own -/
def fnBS (CB : Addr) : FT := fun ds M Φ _ => ∃ b nn doors ms, ds = [.ref b] ∧ M = bookM CB b nn doors ms ∧ ms.length < 16777216 ∧ ∀ p qs, qs.length = ms.length → Φ (.ref p) (.one p (.lst (saidL qs ms)) :: .many qs (ms.map fun e => e.1.map Dt.int) :: bookM CB b nn doors ms)
def AllB (M : Ms) (B : Fr) (CB : Addr) (o : Dt) (A : Dt → Ms → Prop) : Prop := ∃ b nn doors ms, o = .ref b ∧ Ent.one b (bookI CB nn doors) ∈ M ∧ Ent.one nn (bookD ms) ∈ M ∧ ms.length < 16777216 ∧ ∀ p qs, p ∉ B.T → (∀ q ∈ qs, q ∉ B.T) → qs.length = ms.length → A (.ref p) (.one p (.lst (saidL qs ms)) :: .many qs (ms.map fun e => e.1.map Dt.int) :: M)
instance s_allB : Stp (EvW K B (tMethS CB m (spG K 1 (fnBS CB)) (WE W) te tNil) s M Φ) (EvW K B te s M fun o M1 => BookAt M1 CB m o (AllB M1 B CB o Φ)) := ⟨fun h => fun G H σ Q L S q =>
  h G H σ _ L S fun v o M1 G1 H1 L1 e1 r1 h1 => by
    obtain ⟨b, nn, doors, rfl, hb, hm, b2, nn2, doors2, ms, e2, hb2, hd2, hlt, k⟩ := h1
    cases e2
    obtain ⟨dx, ws, ea, l, _⟩ := L1.ats _ hb
    obtain ⟨Mr, hp⟩ := perm_two hb2 hd2 (fun e => by cases e)
    refine ⟨b, dx, _, r1.refOf, ea, lookF_none hm, rfl, G1, bookM CB b nn2 doors2 ms, [.ref b], fun d M' => ∃ p qs, d = .ref p ∧ qs.length = ms.length ∧ M' = .one p (.lst (saidL qs ms)) :: .many qs (ms.map fun e => e.1.map Dt.int) :: bookM CB b nn2 doors2 ms, fun _ _ => False, (L1.perm hp).enter (Ma := bookM CB b nn2 doors2 ms), .cons r1 .nil, ⟨b, nn2, doors2, ms, rfl, rfl, hlt, fun p qs hq => ⟨p, qs, rfl, hq, rfl⟩⟩, fun v d M' G' H' L' r' kk => ?_, fun _ _ _ _ _ k => k.elim⟩
    obtain ⟨p, qs, rfl, hq, rfl⟩ := kk
    have Lb : Lay K B G' ((.one p (.lst (saidL qs ms)) :: .many qs (ms.map fun e => e.1.map Dt.int) :: bookM CB b nn2 doors2 ms) ++ Mr) H' := Lay.back (Ma := bookM CB b nn2 doors2 ms) (L1.perm hp) L'
    have LW : Lay K B G' (.one p (.lst (saidL qs ms)) :: .many qs (ms.map fun e => e.1.map Dt.int) :: M1) H' := Lb.perm ((hp.symm.cons _).cons _)
    have nd := LW.nd
    rw [fpM_cons, fpM_cons, ← List.append_assoc] at nd
    have far : ∀ a, a ∈ (Ent.one p (.lst (saidL qs ms))).fp ++ (Ent.many qs (ms.map fun e => e.1.map Dt.int)).fp → a ∉ B.T := fun a ha z => (List.nodup_append.mp nd).2.2 a ha a (L1.tin a z) rfl
    exact q _ _ _ G' H' LW (e1.trans (L'.grown L1.sub)) r' (k p qs (far p (by simp [Ent.fp])) (fun q hq => far q (by simp [Ent.fp, hq])) hq)⟩
section
variable {b nn : Addr} {doors : Int} {ms : Notes} {A : Dt → Ms → Prop}
instance s_allBi [f : FindC M b (bookI CB nn doors)] [g : FindC M nn (bookD ms)] : Stp (AllB M B CB (.ref b) A) (Pre (ms.length < 16777216) (∀ p qs, p ∉ B.T → (∀ q ∈ qs, q ∉ B.T) → qs.length = ms.length → A (.ref p) (.one p (.lst (saidL qs ms)) :: .many qs (ms.map fun e => e.1.map Dt.int) :: M))) := ⟨fun k => ⟨b, nn, doors, ms, rfl, f.h, g.h, k.1, k.2⟩⟩
end
section
variable {vs : List V} {H : Hp} {Q : VK} {E : XK} {ts : TS} {N : List Str}
theorem enterB2 (h : spG K n (fnB CB R) vs H Q E)
    (k : ∀ (B : Fr) (b nn : Addr) (doors : Int) (ms : Notes) (as : List Dt) (r : Except Addr (Dt × Notes)), R doors ms as r → XOkC K B (WF E) (fun X _ M => r = .error X ∧ ∃ Mr, M.Perm (bookM CB b nn doors ms ++ Mr)) →
      WPs K B ts { nx := fun _ M => ∃ m', r = .ok (.non, m') ∧ ∃ Mr, M.Perm (bookM CB b nn doors m' ++ Mr), rt := fun d M => ∃ m', r = .ok (d, m') ∧ ∃ Mr, M.Perm (bookM CB b nn doors m' ++ Mr) } (startD N.length (.ref b :: as)) (bookM CB b nn doors ms)) :
    ts { nx := fun _ H' => Q .non H', rt := Q } (L2.start N vs) H := by
  obtain ⟨hl, G, M, ds, Φ, Ξ, L, rp, ⟨b, nn, doors, ms, as, r, rfl, rfl, hr, k1, k2⟩, kQ, kE⟩ := h
  refine k ⟨G, H, fpM (bookM CB b nn doors ms)⟩ b nn doors ms as r hr ⟨fun X s M' G' H' σ L' _ z => ?_⟩ _ G H _ ⟨fun s M' G' H' σ z L' _ _ => ?_, fun v d M' G' H' z L' _ r' => ?_, fun _ _ _ _ _ x => x.elim, fun _ _ _ _ _ x => x.elim⟩ L (slots_start rp)
  · obtain ⟨z, Mr, hp⟩ := z; exact kE X _ G' H' ((L'.perm hp).forgetsT fun a h => h) (k2 X z)
  · obtain ⟨m', z, Mr, hp⟩ := z; exact kQ .non .non _ G' H' ((L'.perm hp).forgetsT fun a h => h) .non (k1 _ _ z)
  · obtain ⟨m', z, Mr, hp⟩ := z; exact kQ v d _ G' H' ((L'.perm hp).forgetsT fun a h => h) r' (k1 _ _ z)
theorem enterBS (h : spG K 1 (fnBS CB) vs H Q E)
    (k : ∀ (B : Fr) (b nn : Addr) (doors : Int) (ms : Notes), ms.length < 16777216 →
      WPs K B ts { nx := fun _ M => False, rt := fun d M => ∃ p qs, d = .ref p ∧ qs.length = ms.length ∧ M = .one p (.lst (saidL qs ms)) :: .many qs (ms.map fun e => e.1.map Dt.int) :: bookM CB b nn doors ms } (startD N.length [.ref b]) (bookM CB b nn doors ms)) :
    ts { nx := fun _ H' => Q .non H', rt := Q } (L2.start N vs) H := by
  obtain ⟨hl, G, M, ds, Φ, Ξ, L, rp, ⟨b, nn, doors, ms, rfl, rfl, hlt, k1⟩, kQ, kE⟩ := h
  refine k ⟨G, H, fpM (bookM CB b nn doors ms)⟩ b nn doors ms hlt _ G H _ ⟨fun s M' G' H' σ z L' _ _ => z.elim, fun v d M' G' H' z L' _ r' => ?_, fun _ _ _ _ _ x => x.elim, fun _ _ _ _ _ x => x.elim⟩ L (slots_start rp)
  obtain ⟨p, qs, rfl, hq, rfl⟩ := z
  exact kQ v _ _ G' H' L' r' (k1 p qs hq)
end
end
end Ask
/-! Notes: pairs of a word and what was said of it. -/
namespace Ask
section
variable {α : Type} {κ : Type} [DecidableEq κ] {m a b : List (κ × α)} {k w : κ} {v : α}
theorem lk_nil : lk ([] : List (κ × α)) k = none := rfl
theorem lk_cons {e : κ × α} : lk (e :: m) k = if e.1 = k then some e.2 else lk m k := by
  unfold lk getK
  rw [List.find?_cons]
  by_cases h : e.1 = k
  · simp [h]
  · simp [h]
theorem lk_app : lk (a ++ b) k = (lk a k).or (lk b k) := by
  induction a with
  | nil => rw [List.nil_append, lk_nil]; rfl
  | cons e l ih =>
    rw [List.cons_append, lk_cons, lk_cons, ih]
    split <;> rfl
theorem lk_snoc : lk (a ++ [(w, v)]) k = (lk a k).or (if w = k then some v else none) := by rw [lk_app, lk_cons, lk_nil]
theorem lk_hit {i : Nat} {e : κ × α} (h : lk (m.take i) k = none) (he : m[i]? = some e) (hk : e.1 = k) : lk m k = some e.2 := by
  have hi := (List.getElem?_eq_some_iff.mp he).1
  have : m = m.take i ++ e :: m.drop (i + 1) := by
    have := List.take_append_drop i m
    rw [List.drop_eq_getElem_cons hi] at this
    rw [← Option.some.inj ((List.getElem?_eq_getElem hi).symm.trans he)]
    exact this.symm
  rw [this, lk_app, h, lk_cons, if_pos hk]; rfl
theorem lk_miss {i : Nat} {e : κ × α} (h : lk (m.take i) k = none) (he : m[i]? = some e) (hk : ¬ e.1 = k) : lk (m.take (i + 1)) k = none := by
  rw [take_snoc he, lk_app, h, lk_cons, if_neg hk]; rfl
theorem ins_new (h : lk m k = none) : ins m k v = m ++ [(k, v)] := by
  unfold ins putKD
  rw [if_neg]
  unfold lk at h
  simp [h]
theorem lk_some_mem (h : lk m k = some v) : (k, v) ∈ m := by
  induction m with
  | nil => cases h
  | cons e l ih =>
    rw [lk_cons] at h
    by_cases q : e.1 = k
    · rw [if_pos q] at h
      cases h
      rw [← q]; exact List.mem_cons_self
    · rw [if_neg q] at h
      exact List.mem_cons_of_mem _ (ih h)
theorem lk_none_mem (h : lk m k = none) : k ∉ m.map Prod.fst := by
  induction m with
  | nil => simp
  | cons e l ih =>
    rw [lk_cons] at h
    by_cases q : e.1 = k
    · rw [if_pos q] at h; cases h
    · rw [if_neg q] at h
      rw [List.map_cons, List.mem_cons]
      exact fun z => z.elim (fun z => q z.symm) (ih h)
theorem lk_of_mem (hn : (m.map Prod.fst).Nodup) (h : (k, v) ∈ m) : lk m k = some v := by
  induction m with
  | nil => cases h
  | cons e l ih =>
    rw [List.map_cons, List.nodup_cons] at hn
    rw [lk_cons]
    rcases List.mem_cons.mp h with q | q
    · rw [← q]; simp
    · rw [if_neg]
      · exact ih hn.2 q
      · intro z
        exact hn.1 (z ▸ List.mem_map.mpr ⟨_, q, rfl⟩)
theorem ins_same (hn : (m.map Prod.fst).Nodup) (h : lk m k = some v) : ins m k v = m := by
  unfold ins putKD
  rw [if_pos (by unfold lk at h; simp [h])]
  conv => rhs; rw [← List.map_id m]
  refine List.map_congr_left fun e he => ?_
  split
  · rename_i q
    have : lk m e.1 = some e.2 := lk_of_mem hn he
    rw [q, h] at this
    rw [Option.some.inj this]; rfl
  · rfl
theorem ins_keys (h : lk m k = none) (hn : (m.map Prod.fst).Nodup) : ((m ++ [(k, v)]).map Prod.fst).Nodup := by
  rw [List.map_append]
  refine List.nodup_append.mpr ⟨hn, by simp, fun x hx y hy => ?_⟩
  have : y = k := by simpa using hy
  rw [this]
  exact fun z => lk_none_mem h (z ▸ hx)
end
end Ask
namespace Ask
open PySem L2
section
variable {K : PySem.W.Frag} {B : Fr} {s : Sl} {M : Ms} {Φ : Dt → Ms → Prop} {te : TE} {W : WX} {CB : Addr} {m : Str}
instance s_allBO : Stp (EvW K B (tOwn (tMethS CB m (spG K 1 (fnBS CB)) (WE W) te tNil)) s M Φ) (EvW K B (tMethS CB m (spG K 1 (fnBS CB)) (WE W) te tNil) s M Φ) := ⟨id⟩
/-- a row of the notes, kept as a list of two -/
abbrev rowN (e : List Int × Bool) : Dt := .lst [dInts e.1, .bl e.2]
theorem said_len {qs : List Addr} {ms : Notes} (h : qs.length = ms.length) : (saidL qs ms).length = ms.length := by unfold saidL; rw [List.length_zipWith]; omega
theorem said_get {qs : List Addr} {ms : Notes} {k : Int} (h : qs.length = ms.length) (h0 : 0 ≤ k) (h1 : k < ms.length) : (saidL qs ms)[k.toNat]? = some (.tup [.ref (gt qs k), .bl (gt ms k).2]) := by
  unfold saidL
  rw [List.getElem?_zipWith, get_gt h0 (by omega), get_gt h0 h1]
instance s_ixSaid {qs : List Addr} {ms : Notes} {k : Int} {Ψ : Dt → Prop} : Stp (Ix (saidL qs ms) k Ψ) (Pre (qs.length = ms.length ∧ 0 ≤ k ∧ k < ms.length) (Ψ (.tup [.ref (gt qs k), .bl (gt ms k).2]))) := ⟨fun ⟨⟨h, h0, h1⟩, q⟩ => ⟨_, at_nat h0 (said_get h h0 h1), q⟩⟩
end
end Ask
namespace Ask
open PySem L2
section
variable {K : PySem.W.Frag} {B : Fr} {M : Ms} {Φ : Dt → Ms → Prop} {x : Dt} {i j : Int} {α : Type} {l : List α} {f : α → Dt}
instance s_slMid [h : SeqC M x (l.map f)] : Stp (OpS K B (rSlL K) x (some i) (some j) M Φ) (∀ l' : List α, (∀ y ∈ l', y ∈ l) → l'.length ≤ l.length → Φ (.lst (l'.map f)) M) := ⟨fun k => by
  refine sl_core h.h rfl (fz ?_)
  rw [← List.map_drop, ← List.map_take]
  exact k _ (fun y hy => List.mem_of_mem_drop (List.mem_of_mem_take hy)) (Nat.le_trans (List.length_take_le' _ _) (by rw [List.length_drop]; omega))⟩
end
end Ask
namespace Ask
open PySem L2
instance nov_obl {o : Option Bool} : NoV (optD Dt.bl o) := ⟨by cases o <;> rfl⟩
end Ask
/-! A function whose second argument is a book. -/
namespace Ask
open PySem L2
def fnBH (CB : Addr) (R : Int → Notes → List Dt → Except Addr (Dt × Notes) → Prop) : FT := fun ds M Φ Ξ => ∃ x b n doors m as r, ds = x :: .ref b :: as ∧ M = bookM CB b n doors m ∧ R doors m (x :: as) r ∧ (∀ d m', r = .ok (d, m') → Φ d (bookM CB b n doors m')) ∧ ∀ X, r = .error X → Ξ X (bookM CB b n doors m)
section
variable {K : PySem.W.Frag} {B : Fr} {s : Sl} {M M' : Ms} {Φ : Dt → Ms → Prop} {te : TE} {t : TA} {n : Nat} {ds : List Dt} {W : WX} {Ξ : Addr → Sl → Ms → Prop} {C CB X : Addr} {m : Str} {R : Int → Notes → List Dt → Except Addr (Dt × Notes) → Prop}
def CallBH (M : Ms) (CB : Addr) (R : Int → Notes → List Dt → Except Addr (Dt × Notes) → Prop) (n : Nat) (ds : List Dt) (A : Dt → Ms → Prop) (E : Addr → Prop) : Prop :=
  ∃ x b nn doors ms as r, ds = x :: .ref b :: as ∧ ds.length = n ∧ Ent.one b (bookI CB nn doors) ∈ M ∧ Ent.one nn (bookD ms) ∈ M ∧ R doors ms (x :: as) r ∧ (∀ d m', r = .ok (d, m') → ∃ M', Upd M nn (bookD ms) (bookD m') M' ∧ A d M') ∧ ∀ X, r = .error X → E X
instance s_fnBH [z : XOkC K B W Ξ] : Stp (EvW K B (tCallS (spG K n (fnBH CB R)) (WE W) t) s M Φ) (EvA K B t s M fun ds M1 => CallBH M1 CB R n ds Φ fun X => Ξ X s M1) := ⟨fun h => fun G H σ Q L S q =>
  h G H σ _ L S fun vs ds M1 G1 H1 L1 e1 rs c => by
    obtain ⟨x, b, nn, doors, ms, as, r, rfl, hn, hb, hd, hr, k1, k2⟩ := c
    obtain ⟨Mr, hp⟩ := perm_two hb hd (fun e => by cases e)
    refine call_core (n := n) (F := fnBH CB R) (ds := x :: .ref b :: as) (Ma := bookM CB b nn doors ms) (Mr := Mr) (Φ := fun d M3 => ∃ m', r = .ok (d, m') ∧ M3 = bookM CB b nn doors m' ++ Mr) (Ξc := fun X s3 M3 => s3 = s ∧ r = .error X ∧ M3 = bookM CB b nn doors ms ++ Mr)
      (fun X s3 M3 G3 H3 σ3 L3 S3 k => ?_) hn hp ⟨x, b, nn, doors, ms, as, r, rfl, rfl, hr, fun d m' e => ⟨m', e, rfl⟩, fun X e => ⟨rfl, e, rfl⟩⟩ L1 (S.mono e1) rs fun v3 d M3 G3 H3 L3 e3 r3 k => ?_
    · obtain ⟨rfl, e, rfl⟩ := k
      exact z.h X s3 M1 G3 H3 σ3 (L3.perm hp.symm) S3 (k2 X e)
    · obtain ⟨m', e, rfl⟩ := k
      obtain ⟨M4, u, ha⟩ := k1 d m' e
      exact q v3 d M4 G3 H3 (L3.perm (u.cons_perm hp L1.nd).symm) (e1.trans e3) r3 ha⟩
instance s_bh {x : Dt} {b nn : Addr} {doors : Int} {ms : Notes} {as : List Dt} {A : Dt → Ms → Prop} {E : Addr → Prop} {pre : Prop} {r : Except Addr (Dt × Notes)} [f : FindC M b (bookI CB nn doors)] [g : FindC M nn (bookD ms)] [l : LenN (x :: .ref b :: as) n] [h : FnB R doors ms (x :: as) pre r] : Stp (CallBH M CB R n (x :: .ref b :: as) A E) (Pre pre (ResB M nn ms r A E)) := ⟨fun k => ⟨x, b, nn, doors, ms, as, r, rfl, l.h, f.h, g.h, h.h k.1, k.2.1, k.2.2⟩⟩
theorem enterBH {vs : List V} {H : Hp} {Q : VK} {E : XK} {ts : TS} {N : List Str} (h : spG K n (fnBH CB R) vs H Q E)
    (k : ∀ (B : Fr) (x : Dt) (b nn : Addr) (doors : Int) (ms : Notes) (as : List Dt) (r : Except Addr (Dt × Notes)), R doors ms (x :: as) r → XOkC K B (WF E) (fun X _ M => r = .error X ∧ ∃ Mr, M.Perm (bookM CB b nn doors ms ++ Mr)) →
      WPs K B ts { nx := fun _ M => ∃ m', r = .ok (.non, m') ∧ ∃ Mr, M.Perm (bookM CB b nn doors m' ++ Mr), rt := fun d M => ∃ m', r = .ok (d, m') ∧ ∃ Mr, M.Perm (bookM CB b nn doors m' ++ Mr) } (startD N.length (x :: .ref b :: as)) (bookM CB b nn doors ms)) :
    ts { nx := fun _ H' => Q .non H', rt := Q } (L2.start N vs) H := by
  obtain ⟨hl, G, M, ds, Φ, Ξ, L, rp, ⟨x, b, nn, doors, ms, as, r, rfl, rfl, hr, k1, k2⟩, kQ, kE⟩ := h
  refine k ⟨G, H, fpM (bookM CB b nn doors ms)⟩ x b nn doors ms as r hr ⟨fun X s M' G' H' σ L' _ z => ?_⟩ _ G H _ ⟨fun s M' G' H' σ z L' _ _ => ?_, fun v d M' G' H' z L' _ r' => ?_, fun _ _ _ _ _ x => x.elim, fun _ _ _ _ _ x => x.elim⟩ L (slots_start rp)
  · obtain ⟨z, Mr, hp⟩ := z; exact kE X _ G' H' ((L'.perm hp).forgetsT fun a h => h) (k2 X z)
  · obtain ⟨m', z, Mr, hp⟩ := z; exact kQ .non .non _ G' H' ((L'.perm hp).forgetsT fun a h => h) .non (k1 _ _ z)
  · obtain ⟨m', z, Mr, hp⟩ := z; exact kQ v d _ G' H' ((L'.perm hp).forgetsT fun a h => h) r' (k1 _ _ z)
end
end Ask
/-! Texts. -/
namespace Ask
open PySem L2
/-- a whole number written -/
def numI (i : Int) : Str := Str.ofString (toString i)
def rStrI : List V → Hp → VK → Prop := fun xs H Q => ∃ i, xs = [.int i] ∧ i.natAbs.log2 < 1920 ∧ Q (.str (numI i)) H
theorem ck_str {X : Cx} : CallR X (.type "str") rStrI := call_str_int
def rIntS : List V → Hp → VK → Prop := fun xs H Q => ∃ a n, xs = [.str a] ∧ PySem.intText? a = some n ∧ a.length ≤ 640 ∧ Q (.int n) H
theorem ck_intS {X : Cx} : CallR X (.type "int") rIntS := call_int_str
def rSplit : V → List V → Hp → VK → Prop := fun x xs H Q => ∃ a b, x = .str a ∧ xs = [.str b] ∧ (b.length == 0) = false ∧ a.length + 2 ≤ sizeLine ∧ rNewStrs (Txt.split a b) H Q
theorem pe_splitK {X : Cx} {o e : Expr} {to te : TE} {ap p : Pos} (ho : PE X o to) (he : PE X e te) (hs : starEach [e] X.env = [(false, eval e X.env)] := by rfl) (hb : attributeBase o "split" X.env (eval o X.env) = eval o X.env := by rfl) (hl : (ap.endLine == p.line) = true := by rfl) :
    PE X (.Call (.Attribute o "split" ap) [e] [] p) (tM1 rSplit to te) := pe_split ho he hs hb hl
section
variable {K : PySem.W.Frag} {B : Fr} {s : Sl} {M : Ms} {Φ : Dt → Ms → Prop} {to te : TE} {r : V → List V → Hp → VK → Prop} {a b z : Str} {i : Int} {y : Dt}
theorem rep_strs {G : Hp} : ∀ {l : List Str}, RepAll K G (l.map V.str) (l.map Dt.str)
  | [] => .nil
  | _ :: _ => .cons (.str _) rep_strs
def IsStr (x : Dt) : Prop := ∃ a, x = .str a
theorem e_m1 (h : EvW K B to s M fun x M1 => IsStr x ∧ EvW K B te s M1 fun y M2 => OpM K B r x [y] M2 Φ) : EvW K B (tM1 r to te) s M Φ := fun G H σ Q L S q =>
  h G H σ _ L S fun v x M1 G1 H1 L1 e1 r1 ⟨hx, h1⟩ => by
    obtain ⟨a, rfl⟩ := hx
    exact ⟨⟨a, r1.strOf⟩, h1 G1 H1 σ _ L1 (S.mono e1) fun w y M2 G2 H2 L2 e2 r2 h2 => h2 G2 H2 v [w] Q L2 (r1.mono e2) (.cons r2 .nil) fun u d M3 G3 H3 L3 e3 => q u d M3 G3 H3 L3 ((e1.trans e2).trans e3)⟩
instance s_m1 : Stp (EvW K B (tM1 r to te) s M Φ) (EvW K B to s M fun x M1 => IsStr x ∧ EvW K B te s M1 fun y M2 => OpM K B r x [y] M2 Φ) := ⟨e_m1⟩
instance s_isstr {Q : Prop} : Stp (IsStr (.str a) ∧ Q) Q := ⟨fun k => ⟨⟨a, rfl⟩, k⟩⟩
instance s_join {ys : List Str} [l : SeqC M y (ys.map Dt.str)] : Stp (OpM K B (rJoin K) (.str a) [y] M Φ) (Pre ((ys.map (·.length)).sum + ys.length * a.length ≤ 16777216) (Φ (.str (Txt.join a ys)) M)) := ⟨fun k => fun G H v vs Q L r1 rs q => by
  cases rs with | cons r2 r0 =>
    cases r0
    obtain ⟨p, ws, rfl, e, t⟩ := l.h.at L r2
    have ew := t.strs
    subst ew
    exact ⟨a, p, ys, r1.strOf, rfl, .inl e, k.1, q _ _ M G H L (Ex.refl G) (.str _) k.2⟩⟩
instance s_split : Stp (OpM K B rSplit (.str a) [.str b] M Φ) (Pre (b.length ≠ 0 ∧ a.length + 2 ≤ 16777216) (Φ (.lst ((Txt.split a b).map Dt.str)) M)) := ⟨fun k => fun G H v vs Q L r1 rs q => by
  cases rs with | cons r2 r0 =>
    cases r0
    refine ⟨a, b, r1.strOf, by rw [r2.strOf], by simpa using k.1.1, by rw [sizeLine_eq]; exact k.1.2, fun p hp => ?_⟩
    have hT : p ∉ B.T := fun z => L.freshM hp (L.tin p z)
    have L1 := L.laidM (c := .lst ((Txt.split a b).map Dt.str)) (o := .lst ((Txt.split a b).map V.str)) hp ⟨_, upd_same, rep_strs⟩
    exact lc_end hT ⟨G, L1, Ex.refl G⟩ (lc_frz hT k.2) q⟩
instance s_lenS : Stp (OpN K B (rLen K) [.str z] M Φ) (Pre (z.length < 16777216) (Φ (.int (z.length : Nat)) M)) := ⟨fun k => c_lenS k.1 k.2⟩
instance s_catS : Stp (Op2 K B rPlus (.str a) (.str b) M Φ) (Pre (a.length + b.length < 16777216) (Φ (.str (a ++ b)) M)) := ⟨fun k => p_catS k.1 k.2⟩
theorem log_small {i : Int} (h0 : -1000000000 < i) (h1 : i < 1000000000) : i.natAbs.log2 < 1920 := by
  by_cases h : i.natAbs = 0
  · rw [h]; decide
  · have : i.natAbs.log2 < 30 := (Nat.log2_lt h).mpr (by omega)
    omega
instance s_strI : Stp (OpN K B rStrI [.int i] M Φ) (Pre (-1000000000 < i ∧ i < 1000000000) (Φ (.str (numI i)) M)) := ⟨fun k => fun G H vs Q L rs q => by
  cases rs with | cons r1 r0 =>
    cases r0
    exact ⟨i, by rw [r1.intOf], log_small k.1.1 k.1.2, q _ _ M G H L (Ex.refl G) (.str _) k.2⟩⟩
theorem p_intS {n : Int} (hn : PySem.intText? a = some n) (hl : a.length ≤ 640) (k : Φ (.int n) M) : OpN K B rIntS [.str a] M Φ := fun G H vs Q L rs q => by
  cases rs with | cons r1 r0 =>
    cases r0
    exact ⟨a, n, by rw [r1.strOf], hn, hl, q _ _ M G H L (Ex.refl G) (.int _) k⟩
instance s_notInS {c : Nat} : Stp (Op2 K B rNotInS (.str ⟨#[c]⟩) (.str z) M Φ) (Φ (.bl (!decide (c ∈ z.cps.toList))) M) := ⟨fun k => fun G H v w Q L r1 r2 q => show ∃ (c : Nat) (z : Str), v = .str ⟨#[c]⟩ ∧ w = .str z ∧ Q (.bl (!decide (c ∈ z.cps.toList))) H from ⟨c, z, r1.strOf, r2.strOf, q _ _ M G H L (Ex.refl G) (.bl _) k⟩⟩
/-- for sign in text -/
def ForS (K : PySem.W.Frag) (B : Fr) (x : Dt) (g : TG) (tb : TS) (P : Post) (s : Sl) (M1 : Ms) : Prop := ∃ z, x = .str z ∧ ∃ I : Nat → Sl → Ms → Prop, I 0 s M1 ∧
  (∀ (i : Nat) c s' M', z.cps.toList[i]? = some c → I i s' M' → WPg K B g (.str ⟨#[c]⟩) s' M' fun s2 M2 => WPs K B tb ⟨I (i + 1), P.rt, P.nx, I (i + 1)⟩ s2 M2) ∧ (∀ s' M', I z.cps.toList.length s' M' → P.nx s' M')
theorem w_forS {P : Post} {g : TG} {tb : TS} (h : EvW K B te s M fun x M1 => ForS K B x g tb P s M1) : WPs K B (tFor (iStr te) g tb) P s M := fun D G H σ ok L S =>
  h G H σ _ L S fun v x M1 G1 H1 L1 e1 r1 h' => by
    obtain ⟨z, rfl, I, h0, hs, hd⟩ := h'
    have ok1 := ok.mono e1
    refine ⟨z, r1.strOf, fun i m σ H => m = z.cps.toList.length - i ∧ i ≤ z.cps.toList.length ∧ Pvs K B G1 (I i) σ H, ⟨_, rfl, Nat.zero_le _, s, M1, G1, L1, Ex.refl _, S.mono e1, h0⟩, ?_⟩
    rintro i m σ2 H2 ⟨rfl, hi, s2, M2, G2, L2, x2, S2, i2⟩
    have hsz : z.cps.size = z.cps.toList.length := by simp
    by_cases q : i < z.cps.toList.length
    · refine .inr ⟨(show i < z.cps.size by omega), Pvs K B G1 (I (i + 1)), fun σ' H' p => ⟨z.cps.toList.length - (i + 1), by omega, rfl, q, p⟩, fun y H' hy => ?_⟩
      obtain ⟨rfl, c, hc, rfl⟩ := hy
      have hc2 : z.cps.toList[i]? = some c := by rw [Array.getElem?_toList]; exact hc
      exact hs i c s2 M2 hc2 i2 G2 _ σ2 _ _ L2 S2 (.str _) fun s4 M4 G4 H4 σ4 L4 e4 S4 k => k _ G4 H4 σ4 (ends_in ok1 (x2.trans e4)) L4 S4
    · have e : i = z.cps.toList.length := by omega
      subst e
      exact .inl ⟨(show z.cps.size ≤ _ by omega), ok1.1 s2 M2 G2 H2 σ2 (hd s2 M2 i2) L2 x2 S2⟩
instance s_forS {g : TG} {tb : TS} {nx bk ct : Sl → Ms → Prop} {rt : Dt → Ms → Prop} : Stp (WPs K B (tFor (iStr te) g tb) ⟨nx, rt, bk, ct⟩ s M) (EvW K B te s M fun x M1 => ForS K B x g tb ⟨nx, rt, bk, ct⟩ s M1) := ⟨w_forS⟩
end
/-! ### signs -/
theorem tl_numI {n : Nat} : TL.tl (numI (n : Int)) = TL.numL n := TL.tl_num n
theorem figs : ("0123456789" : Str).cps.toList = [48, 49, 50, 51, 52, 53, 54, 55, 56, 57] := by decide +kernel
theorem num_head {n : Nat} : (TL.numL n).head? = some 48 → n = 0 := by
  induction n using Nat.strongRecOn with
  | _ n ih =>
    by_cases h : n < 10
    · rw [TL.numL_lt h]; intro e; simp at e; exact e
    · rw [TL.numL_step (by omega)]
      intro e
      have hne := TL.numL_ne (n / 10)
      rw [List.head?_append] at e
      cases hh : (TL.numL (n / 10)).head? with
      | none => exact absurd (List.head?_eq_none_iff.mp hh) hne
      | some x =>
        rw [hh] at e
        have := ih (n / 10) (by omega) (by rw [hh]; simpa using e)
        omega
end Ask
/-! A house written. -/
namespace Ask
open PySem L2
theorem tl_txt (a : Str) (ys : List Str) : TL.tl (Txt.join a ys) = TL.joinL (TL.tl a) (ys.map TL.tl) := by rw [TL.join_eq, TL.tl_join]
theorem mem_joinL {S : List Nat} {c : Nat} : ∀ {ps : List (List Nat)}, c ∈ TL.joinL S ps → c ∈ S ∨ ∃ p ∈ ps, c ∈ p
  | [], h => by cases h
  | [p], h => .inr ⟨p, by simp, h⟩
  | p :: q :: r, h => by
    rcases List.mem_append.mp (show c ∈ p ++ (S ++ TL.joinL S (q :: r)) from h) with h | h
    · exact .inr ⟨p, by simp, h⟩
    · rcases List.mem_append.mp h with h | h
      · exact .inl h
      · rcases mem_joinL h with h | ⟨x, hx, h⟩
        · exact .inl h
        · exact .inr ⟨x, List.mem_cons_of_mem _ hx, h⟩
theorem len_joinL {S : List Nat} {n : Nat} : ∀ {ps : List (List Nat)}, (∀ p ∈ ps, p.length ≤ n) → (TL.joinL S ps).length ≤ ps.length * (n + S.length)
  | [], _ => by simp [TL.joinL]
  | [p], h => by
    have := h p (by simp)
    show p.length ≤ 1 * _
    omega
  | p :: q :: r, h => by
    have h1 := h p (by simp)
    have h2 := len_joinL (S := S) (ps := q :: r) fun x hx => h x (List.mem_cons_of_mem _ hx)
    show (p ++ (S ++ TL.joinL S (q :: r))).length ≤ (q :: r).length.succ * _
    rw [List.length_append, List.length_append, Nat.succ_mul]
    omega
theorem joinL_snoc {S p : List Nat} : ∀ {ps : List (List Nat)}, ps ≠ [] → TL.joinL S (ps ++ [p]) = TL.joinL S ps ++ S ++ p
  | [], h => absurd rfl h
  | [q], _ => by show q ++ (S ++ p) = q ++ S ++ p; rw [List.append_assoc]
  | q :: r :: t, _ => by
    show q ++ (S ++ TL.joinL S ((r :: t) ++ [p])) = q ++ (S ++ TL.joinL S (r :: t)) ++ S ++ p
    rw [joinL_snoc (by simp)]
    simp [List.append_assoc]
theorem join_snoc {y p : Str} {ps : List Str} (h : ps ≠ []) : Txt.join y (ps ++ [p]) = Txt.join y ps ++ y ++ p := TL.ext_tl (by
  rw [TL.tl_append, TL.tl_append, tl_txt, tl_txt, List.map_append, List.map_cons, List.map_nil, joinL_snoc (by simpa using h)])
theorem str_assoc {a b c : Str} : a ++ b ++ c = a ++ (b ++ c) := TL.ext_tl (by simp only [TL.tl_append, List.append_assoc])
theorem join_one {y p : Str} : Txt.join y [p] = p := TL.ext_tl (by rw [tl_txt]; rfl)
theorem len_str (x : Str) : x.length = (TL.tl x).length := TL.len_tl x
def lampS (b : Bool) : Str := if b = true then "lit" else "dark"
def rowS (b : Bool) (row : List Int) : Str := Txt.join " " (lampS b :: row.map numI)
def headS (d : Int) : Str := "doors " ++ numI d
def linesK (d : Int) (ways : List (List Int)) (lamps : List Bool) (k : Nat) : List Str := headS d :: (List.range k).map fun i : Nat => rowS (gt lamps (i : Int)) (gt ways (i : Int))
def textS (d : Int) (ways : List (List Int)) (lamps : List Bool) : Str := Txt.join "\n" (linesK d ways lamps ways.length)
/-- a row of numbers that can be written short -/
def Short (row : List Int) : Prop := ∀ x ∈ row, 0 ≤ x ∧ x < 1000
section
variable {d : Int} {ways : List (List Int)} {lamps : List Bool} {k : Nat} {row : List Int} {b : Bool}
theorem linesK_succ : linesK d ways lamps (k + 1) = linesK d ways lamps k ++ [rowS (gt lamps (k : Int)) (gt ways (k : Int))] := by
  unfold linesK
  rw [List.range_succ, List.map_append]; rfl
theorem numI_facts {x : Int} (h : 0 ≤ x ∧ x < 1000) : (TL.tl (numI x)).length ≤ 3 ∧ TL.tl (numI x) ≠ [] ∧ ∀ c ∈ TL.tl (numI x), 48 ≤ c ∧ c ≤ 57 := by
  obtain ⟨n, rfl⟩ : ∃ n : Nat, x = n := ⟨x.toNat, by omega⟩
  rw [tl_numI]
  exact ⟨TL.numL_len (by decide) (by omega), TL.numL_ne n, fun c hc => TL.numL_digits n c hc⟩
theorem lampS_facts : (TL.tl (lampS b)).length ≤ 4 ∧ ∀ c ∈ TL.tl (lampS b), 97 ≤ c ∧ c < 123 := by
  cases b
  · exact ⟨by decide +kernel, by decide +kernel⟩
  · exact ⟨by decide +kernel, by decide +kernel⟩
theorem head_facts (h : 0 ≤ d ∧ d < 1000) : (TL.tl (headS d)).length ≤ 9 ∧ ∀ c ∈ TL.tl (headS d), c = 32 ∨ (97 ≤ c ∧ c < 123) ∨ (48 ≤ c ∧ c ≤ 57) := by
  obtain ⟨h1, _, h2⟩ := numI_facts h
  have e : TL.tl ("doors " : Str) = [100, 111, 111, 114, 115, 32] := by decide +kernel
  unfold headS
  rw [TL.tl_append, e]
  refine ⟨by simp; omega, fun c hc => ?_⟩
  rcases List.mem_append.mp hc with q | q
  · simp only [List.mem_cons, List.not_mem_nil, or_false] at q; omega
  · exact .inr (.inr (h2 c q))
theorem part_facts (h : Short row) : ∀ p ∈ lampS b :: row.map numI, (TL.tl p).length ≤ 4 ∧ ∀ c ∈ TL.tl p, (97 ≤ c ∧ c < 123) ∨ (48 ≤ c ∧ c ≤ 57) := fun p hp => by
  rcases List.mem_cons.mp hp with rfl | hp
  · exact ⟨lampS_facts.1, fun c hc => .inl (lampS_facts.2 c hc)⟩
  · obtain ⟨x, hx, rfl⟩ := List.mem_map.mp hp
    obtain ⟨h1, _, h2⟩ := numI_facts (h x hx)
    exact ⟨by omega, fun c hc => .inr (h2 c hc)⟩
theorem sp1 : TL.tl (" " : Str) = [32] := by decide +kernel
theorem nl1 : TL.tl ("\n" : Str) = [10] := by decide +kernel
theorem row_facts (h : Short row) : (TL.tl (rowS b row)).length ≤ (row.length + 1) * 5 ∧ ∀ c ∈ TL.tl (rowS b row), c = 32 ∨ (97 ≤ c ∧ c < 123) ∨ (48 ≤ c ∧ c ≤ 57) := by
  unfold rowS
  rw [tl_txt, sp1]
  refine ⟨Nat.le_trans (len_joinL (n := 4) fun p hp => ?_) (by simp), fun c hc => ?_⟩
  · obtain ⟨q, hq, rfl⟩ := List.mem_map.mp hp
    exact (part_facts h q hq).1
  · rcases mem_joinL hc with q | ⟨p, hp, q⟩
    · exact .inl (by simpa using q)
    · obtain ⟨z, hz, rfl⟩ := List.mem_map.mp hp
      exact .inr ((part_facts h z hz).2 c q)
theorem split_row (h : Short row) : Txt.split (rowS b row) " " = lampS b :: row.map numI :=
  TL.split_join sp1 (by decide +kernel) (by simp) fun p hp q => by
    have := (part_facts h p hp).2 32 q
    omega
theorem split_head (h : 0 ≤ d ∧ d < 1000) : Txt.split (headS d) " " = [("doors" : Str), numI d] := by
  have e : headS d = Txt.join " " [("doors" : Str), numI d] := TL.ext_tl (by
    unfold headS
    rw [TL.tl_append, tl_txt]
    show _ = TL.tl ("doors" : Str) ++ (TL.tl (" " : Str) ++ TL.tl (numI d))
    rw [← List.append_assoc]; congr 1)
  rw [e]
  refine TL.split_join sp1 (by decide +kernel) (by simp) fun p hp q => ?_
  rcases List.mem_cons.mp hp with rfl | hp
  · revert q; decide +kernel
  · rw [List.mem_singleton.mp hp] at q
    have := (numI_facts h).2.2 32 q
    omega
variable (hk : HouseOk d ways lamps)
include hk
theorem ways_short {i : Int} (h0 : 0 ≤ i) (h1 : i < ways.length) : Short (gt ways i) := fun x hx => by
  have := (hk.2.2.2.2.2 _ (gt_mem h0 h1)).2 x hx
  have := hk.2.2.2.1
  omega
theorem ways_len {i : Int} (h0 : 0 ≤ i) (h1 : i < ways.length) : (gt ways i).length ≤ 6 := by
  have := (hk.2.2.2.2.2 _ (gt_mem h0 h1)).1
  have := hk.2.1
  omega
theorem line_facts (hkl : k ≤ ways.length) : ∀ p ∈ linesK d ways lamps k, (TL.tl p).length ≤ 35 ∧ ∀ c ∈ TL.tl p, c = 32 ∨ (97 ≤ c ∧ c < 123) ∨ (48 ≤ c ∧ c ≤ 57) := fun p hp => by
  rcases List.mem_cons.mp hp with rfl | hp
  · have := head_facts (d := d) ⟨by have := hk.1; omega, by have := hk.2.1; omega⟩
    exact ⟨by omega, this.2⟩
  · obtain ⟨i, hi, rfl⟩ := List.mem_map.mp hp
    have hi := List.mem_range.mp hi
    have f := row_facts (b := gt lamps (i : Int)) (ways_short hk (i := (i : Int)) (by omega) (by omega))
    have l := ways_len hk (i := (i : Int)) (by omega) (by omega)
    exact ⟨by have := f.1; omega, f.2⟩
theorem lines_len (hkl : k ≤ ways.length) : (Txt.join "\n" (linesK d ways lamps k)).length ≤ 20000 := by
  rw [len_str, tl_txt, nl1]
  have := len_joinL (S := [10]) (n := 35) (ps := (linesK d ways lamps k).map TL.tl) fun p hp => by
    obtain ⟨q, hq, rfl⟩ := List.mem_map.mp hp
    exact (line_facts hk hkl q hq).1
  have hl : ((linesK d ways lamps k).map TL.tl).length = k + 1 := by simp [linesK]
  rw [hl] at this
  have h4 := hk.2.2.2.1
  simp only [List.length_cons, List.length_nil] at this
  omega
theorem split_text : Txt.split (textS d ways lamps) "\n" = linesK d ways lamps ways.length :=
  TL.split_join nl1 (by decide +kernel) (by simp [linesK]) fun p hp q => by
    have := (line_facts hk (Nat.le_refl _) p hp).2 10 q
    omega
theorem text_ok : PyData.strOk (textS d ways lamps) = true := by
  unfold PyData.strOk textS
  rw [← Array.all_toList]
  refine List.all_eq_true.mpr fun c hc => ?_
  have hc2 : c ∈ TL.tl (Txt.join "\n" (linesK d ways lamps ways.length)) := hc
  rw [tl_txt, nl1] at hc2
  have : c < 1000 := by
    rcases mem_joinL hc2 with q | ⟨p, hp, q⟩
    · have : c = 10 := by simpa using q
      omega
    · obtain ⟨z, hz, rfl⟩ := List.mem_map.mp hp
      have := (line_facts hk (Nat.le_refl _) z hz).2 c q
      omega
  simp; omega
end
section
variable {x d : Int} {c : Nat} {ways : List (List Int)} {lamps : List Bool} {b : Bool} {row : List Int}
theorem len_num (h : 0 ≤ x ∧ x < 1000) : 1 ≤ (numI x).length ∧ (numI x).length ≤ 3 := by
  obtain ⟨h1, h2, _⟩ := numI_facts h
  rw [len_str]
  have := List.length_pos_iff.mpr h2
  omega
theorem ok_of {s : Str} (h : ∀ c ∈ TL.tl s, c < 1000) : PyData.strOk s = true := by
  unfold PyData.strOk
  rw [← Array.all_toList]
  refine List.all_eq_true.mpr fun c hc => ?_
  have := h c hc
  simp; omega
theorem num_ok (h : 0 ≤ x ∧ x < 1000) : PyData.strOk (numI x) = true := ok_of fun c hc => by have := (numI_facts h).2.2 c hc; omega
theorem lamp_ok : PyData.strOk (lampS b) = true := ok_of fun c hc => by have := lampS_facts.2 c hc; omega
theorem sign_ok (h : c < 1000) : PyData.strOk (⟨#[c]⟩ : Str) = true := ok_of fun d hd => by
  have : d = c := by simpa [TL.tl] using hd
  omega
theorem num_at0 (h : 0 ≤ x ∧ x < 1000) : ∃ c, atI (numI x).cps.toList 0 = some c ∧ 48 ≤ c ∧ c ≤ 57 ∧ (c = 48 → numI x = "0") := by
  obtain ⟨_, h2, h3⟩ := numI_facts h
  obtain ⟨c, l, e⟩ := List.exists_cons_of_ne_nil h2
  have hc := h3 c (by rw [e]; simp)
  refine ⟨c, (by show atI (TL.tl (numI x)) 0 = some c; rw [e]; exact (show atI (c :: l) ((0 : Nat) : Int) = some c from atI_nat rfl)), hc.1, hc.2, fun z => ?_⟩
  obtain ⟨n, rfl⟩ : ∃ n : Nat, x = n := ⟨x.toNat, by omega⟩
  rw [tl_numI] at e
  have := num_head (n := n) (by rw [e, z]; rfl)
  subst this
  decide +kernel
theorem num_int (h : 0 ≤ x ∧ x < 1000) : PySem.intText? (numI x) = some x := by
  obtain ⟨n, rfl⟩ : ∃ n : Nat, x = n := ⟨x.toNat, by omega⟩
  exact TL.int_num (Nat.le_trans (TL.numL_len (k := 3) (by decide) (by omega)) (by decide))
theorem num_fig (h : 0 ≤ x ∧ x < 1000) (hc : c ∈ (numI x).cps.toList) : c ∈ ("0123456789" : Str).cps.toList := by
  have := (numI_facts h).2.2 c hc
  rw [figs]
  simp; omega
theorem sign_zero : (⟨#[c]⟩ : Str) = "0" ↔ c = 48 := ⟨fun h => by
  have := congrArg TL.tl h
  rw [show TL.tl ("0" : Str) = [48] by decide +kernel] at this
  simpa [TL.tl] using this, fun h => by subst h; decide +kernel⟩
theorem lamp_lit : decide (lampS b = "lit") = b := by cases b <;> decide +kernel
theorem nl_lamp {a : Str} : a ++ (if b = true then "\nlit" else "\ndark" : Str) = a ++ "\n" ++ Txt.join " " [lampS b] := by
  rw [join_one, str_assoc]; congr 1
  cases b <;> decide +kernel
theorem sum_le {α : Type} {f : α → Nat} {n : Nat} : ∀ {l : List α}, (∀ p ∈ l, f p ≤ n) → (l.map f).sum ≤ l.length * n
  | [], _ => by simp
  | p :: l, h => by
    have h1 := h p (by simp)
    have h2 := sum_le (f := f) (n := n) (l := l) fun x hx => h x (List.mem_cons_of_mem _ hx)
    rw [List.map_cons, List.sum_cons, List.length_cons, Nat.succ_mul]; omega
theorem row_sum (h : Short row) (hl : row.length ≤ 6) : ((lampS b :: row.map numI).map fun x => x.length).sum + (lampS b :: row.map numI).length * (Str.ofString " ").length ≤ 16777216 := by
  have h1 := sum_le (f := fun x : Str => x.length) (n := 4) (l := lampS b :: row.map numI) fun p hp => by rw [len_str]; exact (part_facts h p hp).1
  have h2 : (lampS b :: row.map numI).length ≤ 7 := by simp; omega
  rw [show (Str.ofString " ").length = 1 by decide +kernel]
  omega
theorem lines_sum {k : Nat} (hk : HouseOk d ways lamps) (hkl : k ≤ ways.length) : ((linesK d ways lamps k).map fun x => x.length).sum + (linesK d ways lamps k).length * (Str.ofString "\n").length ≤ 16777216 := by
  have h1 := sum_le (f := fun x : Str => x.length) (n := 35) (l := linesK d ways lamps k) fun p hp => by rw [len_str]; exact (line_facts hk hkl p hp).1
  have h2 : (linesK d ways lamps k).length = k + 1 := by simp [linesK]
  have h4 := hk.2.2.2.1
  rw [show (Str.ofString "\n").length = 1 by decide +kernel]
  omega
theorem row_part_len (h : Short row) : (Txt.join " " (lampS b :: row.map numI)).length ≤ (row.length + 1) * 5 := by rw [len_str]; exact (row_facts (b := b) h).1
end
end Ask
namespace Ask
open PySem L2
theorem nl_lit {a : Str} : a ++ Str.ofString "\nlit" = a ++ "\n" ++ Txt.join " " [lampS true] := nl_lamp (b := true)
theorem nl_dark {a : Str} : a ++ Str.ofString "\ndark" = a ++ "\n" ++ Txt.join " " [lampS false] := nl_lamp (b := false)
end Ask
/-! Learners: an instance, its book, its heads and tails, owned. -/
namespace Ask
open PySem L2
structure LSt where
  d : Int
  notes : Notes
  heads : List (List Int)
  tails : List (List Int)
  waiting : List (List Int)
abbrev lrnI (CL b h t : Addr) (d : Int) (waiting : List (List Int)) : Cell := .ins CL ["book", "doors", "heads", "tails", "waiting"] [.ref b, .int d, .ref h, .ref t, .lst (waiting.map dInts)]
abbrev lrnM (CL CB L b n h t : Addr) (st : LSt) : Ms := [.one L (lrnI CL b h t st.d st.waiting), .one b (bookI CB n st.d), .one n (bookD st.notes), .one h (.lst (st.heads.map dInts)), .one t (.lst (st.tails.map dInts))]
def fnLn (CL CB : Addr) (R : LSt → List Dt → Except Addr (Dt × LSt) → Prop) : FT := fun ds M Φ Ξ => ∃ L b n h t st as r, ds = .ref L :: as ∧ M = lrnM CL CB L b n h t st ∧ R st as r ∧ (∀ d st', r = .ok (d, st') → Φ d (lrnM CL CB L b n h t st')) ∧ ∀ X, r = .error X → Ξ X (lrnM CL CB L b n h t st)
/-- one entry taken out -/
class TakeC (M : Ms) (a : Addr) (c : outParam Cell) (M' : outParam Ms) : Prop where h : M.Perm (.one a c :: M')
instance take0 {M : Ms} {a : Addr} {c : Cell} : TakeC (.one a c :: M) a c M := ⟨.refl _⟩
instance (priority := low) takeS {M M' : Ms} {a : Addr} {c : Cell} {e : Ent} [l : TakeC M a c M'] : TakeC (e :: M) a c (e :: M') := ⟨(l.h.cons e).trans (.swap _ _ _)⟩
theorem upd_to {M M' Mx : Ms} {a : Addr} {c c' : Cell} (u : Upd M a c c' M') (h : M.Perm (.one a c :: Mx)) : M'.Perm (.one a c' :: Mx) := by
  obtain ⟨Mr, h1, h2⟩ := u.perm
  exact h2.trans (((List.Perm.cons_inv (h1.symm.trans h))).cons _)
section
variable {K : PySem.W.Frag} {B : Fr} {s : Sl} {M M' : Ms} {Φ : Dt → Ms → Prop} {te : TE} {t : TA} {n : Nat} {ds : List Dt} {W : WX} {Ξ : Addr → Sl → Ms → Prop} {CL CB X : Addr} {m : Str} {R : LSt → List Dt → Except Addr (Dt × LSt) → Prop}
/-- how a learner's parts change in what is owned -/
def LUp (M : Ms) (CL CB L b n h t : Addr) (st st' : LSt) (M' : Ms) : Prop := ∃ Mr, M.Perm (lrnM CL CB L b n h t st ++ Mr) ∧ M'.Perm (lrnM CL CB L b n h t st' ++ Mr)
def CallLn (M : Ms) (CL CB : Addr) (R : LSt → List Dt → Except Addr (Dt × LSt) → Prop) (n : Nat) (ds : List Dt) (A : Dt → Ms → Prop) (E : Addr → Prop) : Prop :=
  ∃ L b nn h t st as r, ds = .ref L :: as ∧ ds.length = n ∧ (∃ Mr, M.Perm (lrnM CL CB L b nn h t st ++ Mr)) ∧ R st as r ∧ (∀ d st', r = .ok (d, st') → ∃ M', (∀ Mr, M.Perm (lrnM CL CB L b nn h t st ++ Mr) → M'.Perm (lrnM CL CB L b nn h t st' ++ Mr)) ∧ A d M') ∧ ∀ X, r = .error X → E X
theorem call_ln [z : XOkC K B W Ξ] {M2 : Ms} (c : CallLn M2 CL CB R n ds Φ fun X => Ξ X s M2) {G H : Hp} {σ : L2.St} {vs : List V} {Q : VK} (L2 : Lay K B G M2 H) (S : Slots K G σ s) (rp : RepAll K G vs ds)
    (q : ∀ v d M' G' H', Lay K B G' M' H' → Ex G G' → Rep K G' v d → Φ d M' → Q v H') : spG K n (fnLn CL CB R) vs H Q (fun cls d H => W cls d σ H) := by
  obtain ⟨L, b, nn, h, t, st, as, r, rfl, hn, ⟨Mr, hp⟩, hr, k1, k2⟩ := c
  refine call_core (n := n) (F := fnLn CL CB R) (ds := .ref L :: as) (Ma := lrnM CL CB L b nn h t st) (Mr := Mr) (Φ := fun d M3 => ∃ st', r = .ok (d, st') ∧ M3 = lrnM CL CB L b nn h t st' ++ Mr) (Ξc := fun X s3 M3 => s3 = s ∧ r = .error X ∧ M3 = lrnM CL CB L b nn h t st ++ Mr)
    (fun X s3 M3 G3 H3 σ3 L3 S3 k => ?_) hn hp ⟨L, b, nn, h, t, st, as, r, rfl, rfl, hr, fun d m' e => ⟨m', e, rfl⟩, fun X e => ⟨rfl, e, rfl⟩⟩ L2 S rp fun v3 d M3 G3 H3 L3 e3 r3 k => ?_
  · obtain ⟨rfl, e, rfl⟩ := k
    exact z.h X s3 M2 G3 H3 σ3 (L3.perm hp.symm) S3 (k2 X e)
  · obtain ⟨st', e, rfl⟩ := k
    obtain ⟨M4, u, ha⟩ := k1 d st' e
    exact q v3 d M4 G3 H3 (L3.perm (u Mr hp).symm) e3 r3 ha
def LrnAt (M : Ms) (CL : Addr) (m : Str) (o : Dt) (Q : Prop) : Prop := ∃ L b h t d w, o = .ref L ∧ Ent.one L (lrnI CL b h t d w) ∈ M ∧ m ∉ (["book", "doors", "heads", "tails", "waiting"] : List Str) ∧ Q
instance (priority := high) s_methLn [z : XOkC K B W Ξ] : Stp (EvW K B (tMethS CL m (spG K n (fnLn CL CB R)) (WE W) te t) s M Φ) (EvW K B te s M fun o M1 => LrnAt M1 CL m o (EvA K B t s M1 fun as M2 => CallLn M2 CL CB R n (o :: as) Φ fun X => Ξ X s M2)) := ⟨fun h => fun G H σ Q L S q =>
  h G H σ _ L S fun v o M1 G1 H1 L1 e1 r1 h1 => by
    obtain ⟨a, b, hh, t, d, w, rfl, hb, hm, h1⟩ := h1
    obtain ⟨dx, ws, ea, l, _⟩ := L1.ats _ hb
    exact ⟨a, dx, _, r1.refOf, ea, lookF_none hm, h1 G1 H1 σ _ L1 (S.mono e1) fun vs as M2 G2 H2 L2 e2 rs c => call_ln c L2 (S.mono (e1.trans e2)) (.cons (r1.mono e2) rs) fun v3 d M3 G3 H3 L3 e3 => q v3 d M3 G3 H3 L3 ((e1.trans e2).trans e3)⟩⟩
instance s_fnLn [z : XOkC K B W Ξ] : Stp (EvW K B (tCallS (spG K n (fnLn CL CB R)) (WE W) t) s M Φ) (EvA K B t s M fun ds M1 => CallLn M1 CL CB R n ds Φ fun X => Ξ X s M1) := ⟨fun h => fun G H σ Q L S q =>
  h G H σ _ L S fun vs ds M1 G1 H1 L1 e1 rs c => call_ln c L1 (S.mono e1) rs fun v3 d M3 G3 H3 L3 e3 => q v3 d M3 G3 H3 L3 (e1.trans e3)⟩
class FnLn (R : LSt → List Dt → Except Addr (Dt × LSt) → Prop) (st : LSt) (as : List Dt) (pre : outParam Prop) (r : outParam (Except Addr (Dt × LSt))) : Prop where h : pre → R st as r
def ResLn (M : Ms) (L b n h t : Addr) (CL CB : Addr) (st : LSt) (r : Except Addr (Dt × LSt)) (A : Dt → Ms → Prop) (E : Addr → Prop) : Prop := (∀ d st', r = .ok (d, st') → ∃ M', (∀ Mr, M.Perm (lrnM CL CB L b n h t st ++ Mr) → M'.Perm (lrnM CL CB L b n h t st' ++ Mr)) ∧ A d M') ∧ ∀ X, r = .error X → E X
section
variable {L b nn h t : Addr} {d : Int} {notes notes' : Notes} {heads tails waiting heads' tails' waiting' : List (List Int)} {as : List Dt} {A : Dt → Ms → Prop} {E : Addr → Prop} {Q pre p : Prop} {r r1 r2 : Except Addr (Dt × LSt)} {v : Dt} {M1 M2 M3 M4 M5 : Ms} {st : LSt}
instance s_lrnat [f : FindC M L (lrnI CL b h t d waiting)] : Stp (LrnAt M CL m (.ref L) Q) (Pre (m ∉ (["book", "doors", "heads", "tails", "waiting"] : List Str)) Q) := ⟨fun k => ⟨L, b, h, t, d, waiting, rfl, f.h, k.1, k.2⟩⟩
instance s_ln [c1 : TakeC M L (lrnI CL b h t d waiting) M1] [c2 : TakeC M1 b (bookI CB nn d) M2] [c3 : TakeC M2 nn (bookD notes) M3] [c4 : TakeC M3 h (.lst (heads.map dInts)) M4] [c5 : TakeC M4 t (.lst (tails.map dInts)) M5] [l : LenN (.ref L :: as) n] [f : FnLn R ⟨d, notes, heads, tails, waiting⟩ as pre r] :
    Stp (CallLn M CL CB R n (.ref L :: as) A E) (Pre pre (ResLn M L b nn h t CL CB ⟨d, notes, heads, tails, waiting⟩ r A E)) := ⟨fun k => ⟨L, b, nn, h, t, ⟨d, notes, heads, tails, waiting⟩, as, r, rfl, l.h, ⟨M5, c1.h.trans ((c2.h.trans ((c3.h.trans ((c4.h.trans (c5.h.cons _)).cons _)).cons _)).cons _)⟩, f.h k.1, k.2.1, k.2.2⟩⟩
instance s_resln_ok [u1 : PutC M L (lrnI CL b h t d waiting) (lrnI CL b h t d waiting') M1] [u2 : PutC M1 nn (bookD notes) (bookD notes') M2] [u3 : PutC M2 h (.lst (heads.map dInts)) (.lst (heads'.map dInts)) M3] [u4 : PutC M3 t (.lst (tails.map dInts)) (.lst (tails'.map dInts)) M4] :
    Stp (ResLn M L b nn h t CL CB ⟨d, notes, heads, tails, waiting⟩ (.ok (v, ⟨d, notes', heads', tails', waiting'⟩)) A E) (A v M4) := ⟨fun k => ⟨fun _ _ e => by
  cases e
  refine ⟨M4, fun Mr hp => ?_, k⟩
  have h1 := upd_to u1.h hp
  have h2 := upd_to u2.h (h1.trans ((List.perm_middle (l₁ := [_, _]))))
  have h3 := upd_to u3.h (h2.trans ((List.perm_middle (l₁ := [_, _, _]))))
  have h4 := upd_to u4.h (h3.trans ((List.perm_middle (l₁ := [_, _, _, _]))))
  exact h4.trans ((List.perm_middle (l₁ := [_, _, _, _])).trans (((List.perm_middle (l₁ := [_, _, _])).trans ((List.perm_middle (l₁ := [_, _])).cons _)).cons _)).symm, fun _ e => by cases e⟩⟩
instance s_resln_er {Y : Addr} : Stp (ResLn M L b nn h t CL CB st (.error Y) A E) (E Y) := ⟨fun k => ⟨(fun _ _ e => by cases e), (fun _ e => by cases e; exact k)⟩⟩
instance s_resln_if [q : Decidable p] : Stp (ResLn M L b nn h t CL CB st (if p then r1 else r2) A E) (Br p (ResLn M L b nn h t CL CB st r1 A E) (ResLn M L b nn h t CL CB st r2 A E)) := ⟨fun k => by
  by_cases h : p
  · rw [if_pos h]; exact k.1 h
  · rw [if_neg h]; exact k.2 h⟩
end
section
variable {vs : List V} {H : Hp} {Q : VK} {E : XK} {ts : TS} {N : List Str}
theorem enterLn (h : spG K n (fnLn CL CB R) vs H Q E)
    (k : ∀ (B : Fr) (L b nn h t : Addr) (st : LSt) (as : List Dt) (r : Except Addr (Dt × LSt)), R st as r → XOkC K B (WF E) (fun X _ M => r = .error X ∧ ∃ Mr, M.Perm (lrnM CL CB L b nn h t st ++ Mr)) →
      WPs K B ts { nx := fun _ M => ∃ st', r = .ok (.non, st') ∧ ∃ Mr, M.Perm (lrnM CL CB L b nn h t st' ++ Mr), rt := fun d M => ∃ st', r = .ok (d, st') ∧ ∃ Mr, M.Perm (lrnM CL CB L b nn h t st' ++ Mr) } (startD N.length (.ref L :: as)) (lrnM CL CB L b nn h t st)) :
    ts { nx := fun _ H' => Q .non H', rt := Q } (L2.start N vs) H := by
  obtain ⟨hl, G, M, ds, Φ, Ξ, Ly, rp, ⟨L, b, nn, hh, t, st, as, r, rfl, rfl, hr, k1, k2⟩, kQ, kE⟩ := h
  refine k ⟨G, H, fpM (lrnM CL CB L b nn hh t st)⟩ L b nn hh t st as r hr ⟨fun X s M' G' H' σ L' _ z => ?_⟩ _ G H _ ⟨fun s M' G' H' σ z L' _ _ => ?_, fun v d M' G' H' z L' _ r' => ?_, fun _ _ _ _ _ x => x.elim, fun _ _ _ _ _ x => x.elim⟩ Ly (slots_start rp)
  · obtain ⟨z, Mr, hp⟩ := z; exact kE X _ G' H' ((L'.perm hp).forgetsT fun a h => h) (k2 X z)
  · obtain ⟨m', z, Mr, hp⟩ := z; exact kQ .non .non _ G' H' ((L'.perm hp).forgetsT fun a h => h) .non (k1 _ _ z)
  · obtain ⟨m', z, Mr, hp⟩ := z; exact kQ v d _ G' H' ((L'.perm hp).forgetsT fun a h => h) r' (k1 _ _ z)
end
end
end Ask
/-! What a learner computes. -/
namespace Ask
abbrev Wd := List Int
def edgesOf (d : Int) (h : Wd) : List Wd := (List.range d.toNat).map fun k : Nat => h ++ [(k : Int)]
def linesOf (d : Int) (h : Wd) : List Wd := h :: edgesOf d h
def rowOf (notes : Notes) (tails : List Wd) (w : Wd) : List (Option Bool) := tails.map fun t => lk notes (w ++ t)
def pushU (notes : Notes) (acc : List Wd) (w : Wd) : List Wd := if lk notes w = none ∧ w ∉ acc then acc ++ [w] else acc
def uT (notes : Notes) (tails : List Wd) (acc : List Wd) (line : Wd) : List Wd := tails.foldl (fun acc t => pushU notes acc (line ++ t)) acc
def uL (notes : Notes) (tails : List Wd) (acc : List Wd) (lines : List Wd) : List Wd := lines.foldl (uT notes tails) acc
def uH (d : Int) (notes : Notes) (tails : List Wd) (heads : List Wd) : List Wd := heads.foldl (fun acc h => uL notes tails acc (linesOf d h)) []
def unsaidOf (st : LSt) : List Wd := uH st.d st.notes st.tails st.heads
def isLoose (st : LSt) (e : Wd) : Prop := rowOf st.notes st.tails e ∉ st.heads.map (rowOf st.notes st.tails)
instance {st : LSt} {e : Wd} : Decidable (isLoose st e) := inferInstanceAs (Decidable (¬ _))
def looseOf (st : LSt) : Option Wd := (st.heads.flatMap (edgesOf st.d)).find? fun e => decide (isLoose st e)
def fillW (st : LSt) : LSt := { st with waiting := unsaidOf st }
def growH (st : LSt) (e : Wd) : LSt := fillW { st with heads := st.heads ++ [e] }
def settleF : Nat → LSt → LSt
  | 0, st => st
  | f + 1, st => if st.waiting = [] then (match looseOf st with | none => st | some e => settleF f (growH st e)) else st
def settleOf (st : LSt) : LSt := settleF (st.notes.length + 2) (fillW st)
theorem foldl_snoc {α β : Type} {f : β → α → β} {a : β} {l : List α} {i : Nat} {x : α} (h : l[i]? = some x) : (l.take (i + 1)).foldl f a = f ((l.take i).foldl f a) x := by
  rw [take_snoc h, List.foldl_append]; rfl
section
variable {notes : Notes} {tails acc : List Wd} {w line : Wd} {d : Int} {heads lines : List Wd}
theorem mem_pushU {x : Wd} : x ∈ pushU notes acc w ↔ x ∈ acc ∨ (x = w ∧ lk notes w = none) := by
  unfold pushU
  split
  · rename_i h
    simp only [List.mem_append, List.mem_singleton]
    exact ⟨fun z => z.imp id fun z => ⟨z, h.1⟩, fun z => z.imp id fun z => z.1⟩
  · rename_i h
    refine ⟨.inl, fun z => z.elim id fun z => ?_⟩
    by_cases q : w ∈ acc
    · rw [z.1]; exact q
    · exact absurd ⟨z.2, q⟩ h
theorem nd_pushU (h : acc.Nodup) : (pushU notes acc w).Nodup := by
  unfold pushU
  split
  · rename_i q
    exact List.nodup_append.mpr ⟨h, by simp, fun a ha b hb => by rw [List.mem_singleton.mp hb]; exact fun z => q.2 (z ▸ ha)⟩
  · exact h
theorem len_pushU : (pushU notes acc w).length ≤ acc.length + 1 := by unfold pushU; split <;> simp
theorem mem_uT {x : Wd} : ∀ {tails : List Wd} {acc : List Wd}, x ∈ uT notes tails acc line ↔ x ∈ acc ∨ ∃ t ∈ tails, x = line ++ t ∧ lk notes x = none
  | [], acc => by simp [uT]
  | t :: r, acc => by
    show x ∈ uT notes r (pushU notes acc (line ++ t)) line ↔ _
    rw [mem_uT, mem_pushU]
    simp only [List.mem_cons, exists_eq_or_imp, or_assoc]
    refine or_congr_right (or_congr_left ⟨fun z => ⟨z.1, z.1 ▸ z.2⟩, fun z => ⟨z.1, z.1 ▸ z.2⟩⟩)
theorem mem_uL {x : Wd} : ∀ {lines : List Wd} {acc : List Wd}, x ∈ uL notes tails acc lines ↔ x ∈ acc ∨ ∃ l ∈ lines, ∃ t ∈ tails, x = l ++ t ∧ lk notes x = none
  | [], acc => by simp [uL]
  | l :: r, acc => by
    show x ∈ uL notes tails (uT notes tails acc l) r ↔ _
    rw [mem_uL, mem_uT]
    simp only [List.mem_cons, exists_eq_or_imp, or_assoc]
theorem mem_uHa {x : Wd} : ∀ {heads : List Wd} {acc : List Wd}, x ∈ heads.foldl (fun acc h => uL notes tails acc (linesOf d h)) acc ↔ x ∈ acc ∨ ∃ h ∈ heads, ∃ l ∈ linesOf d h, ∃ t ∈ tails, x = l ++ t ∧ lk notes x = none
  | [], acc => by simp
  | h :: r, acc => by
    rw [List.foldl_cons, mem_uHa, mem_uL]
    simp only [List.mem_cons, exists_eq_or_imp, or_assoc]
theorem mem_uH {x : Wd} : x ∈ uH d notes tails heads ↔ ∃ h ∈ heads, ∃ l ∈ linesOf d h, ∃ t ∈ tails, x = l ++ t ∧ lk notes x = none := by
  unfold uH; rw [mem_uHa]; simp
theorem fold_ok {α : Type} {P : List Wd → Prop} {f : List Wd → α → List Wd} (h : ∀ a x, P a → P (f a x)) : ∀ {l : List α} {a : List Wd}, P a → P (l.foldl f a)
  | [], _, p => p
  | x :: l, _, p => fold_ok h (l := l) (h _ x p)
theorem nd_uH : (uH d notes tails heads).Nodup := fold_ok (P := List.Nodup) (fun a x h => fold_ok (fun a x h => fold_ok (fun a x h => nd_pushU h) h) h) List.nodup_nil
theorem len_fold {α : Type} {f : List Wd → α → List Wd} {n : Nat} (h : ∀ a x, (f a x).length ≤ a.length + n) : ∀ {l : List α} {a : List Wd}, (l.foldl f a).length ≤ a.length + l.length * n
  | [], _ => by simp
  | x :: l, a => by
    have h1 := h a x
    have h2 := len_fold h (l := l) (a := f a x)
    rw [List.foldl_cons, List.length_cons, Nat.succ_mul]; omega
theorem len_uT : (uT notes tails acc line).length ≤ acc.length + tails.length := by
  have := len_fold (f := fun acc t => pushU notes acc (line ++ t)) (n := 1) (fun a x => len_pushU) (l := tails) (a := acc)
  rw [Nat.mul_one] at this; exact this
theorem len_uL : (uL notes tails acc lines).length ≤ acc.length + lines.length * tails.length := len_fold (fun a x => len_uT)
theorem len_lines : (linesOf d line).length = d.toNat + 1 := by simp [linesOf, edgesOf]
theorem len_uHt {i : Nat} : ((heads.take i).foldl (fun acc h => uL notes tails acc (linesOf d h)) []).length ≤ heads.length * ((d.toNat + 1) * tails.length) := by
  have := len_fold (f := fun acc h => uL notes tails acc (linesOf d h)) (n := (d.toNat + 1) * tails.length) (fun a x => by have := len_uL (notes := notes) (tails := tails) (acc := a) (lines := linesOf d x); rwa [len_lines] at this) (l := heads.take i) (a := [])
  refine Nat.le_trans this ?_
  rw [List.length_nil, Nat.zero_add, List.length_take]
  exact Nat.mul_le_mul_right _ (Nat.min_le_right _ _)
end
/-- a state that a learner may be in -/
structure LOk (st : LSt) : Prop where
  d1 : 1 ≤ st.d
  d6 : st.d ≤ 6
  hw : ∀ w ∈ st.heads, WordOk st.d w ∧ w.length ≤ st.heads.length
  hn : st.heads.Nodup
  hl : st.heads.length ≤ st.notes.length + 1
  tw : ∀ w ∈ st.tails, WordOk st.d w ∧ w.length ≤ 1000
  t0 : [] ∈ st.tails
  tl : st.tails.length ≤ 1000
  nl : st.notes.length ≤ 900
theorem WordOk.app {d : Int} {a b : Wd} (ha : WordOk d a) (hb : WordOk d b) : WordOk d (a ++ b) := fun x hx => by
  rcases List.mem_append.mp hx with q | q
  · exact ha x q
  · exact hb x q
theorem edge_ok {d : Int} {h e : Wd} (hh : WordOk d h) (he : e ∈ edgesOf d h) : WordOk d e ∧ e.length = h.length + 1 := by
  obtain ⟨k, hk, rfl⟩ := List.mem_map.mp he
  have hk := List.mem_range.mp hk
  refine ⟨hh.app fun x hx => ?_, by simp⟩
  rw [List.mem_singleton.mp hx]; omega
section
variable {st : LSt} {w : Wd}
theorem LOk.line (h : LOk st) {g l : Wd} (hg : g ∈ st.heads) (hl : l ∈ linesOf st.d g) : WordOk st.d l ∧ l.length ≤ 1000 := by
  have hw := h.hw g hg
  have h1 := h.hl
  have h2 := h.nl
  rcases List.mem_cons.mp hl with rfl | hl
  · exact ⟨hw.1, by omega⟩
  · have := edge_ok hw.1 hl
    exact ⟨this.1, by omega⟩
theorem LOk.cand (h : LOk st) {g l t : Wd} (hg : g ∈ st.heads) (hl : l ∈ linesOf st.d g) (ht : t ∈ st.tails) : WordOk st.d (l ++ t) ∧ (l ++ t).length ≤ 2000 := by
  have a := h.line hg hl
  have b := h.tw t ht
  exact ⟨a.1.app b.1, by rw [List.length_append]; omega⟩
theorem LOk.wait (h : LOk st) (hw : w ∈ unsaidOf st) : WordOk st.d w ∧ w.length ≤ 2000 ∧ lk st.notes w = none := by
  obtain ⟨g, hg, l, hl, t, ht, rfl, hn⟩ := mem_uH.mp hw
  have := h.cand hg hl ht
  exact ⟨this.1, this.2, hn⟩
theorem loose_edge_of (h : looseOf st = some w) : (∃ g ∈ st.heads, w ∈ edgesOf st.d g) ∧ isLoose st w := by
  have h1 := List.find?_some h
  obtain ⟨g, hg, hw⟩ := List.mem_flatMap.mp (List.mem_of_find?_eq_some h)
  exact ⟨⟨g, hg, hw⟩, of_decide_eq_true h1⟩
theorem LOk.said (h : LOk st) (hu : unsaidOf st = []) {g l : Wd} (hg : g ∈ st.heads) (hl : l ∈ linesOf st.d g) {t : Wd} (ht : t ∈ st.tails) : lk st.notes (l ++ t) ≠ none := fun z => by
  have : l ++ t ∈ unsaidOf st := mem_uH.mpr ⟨g, hg, l, hl, t, ht, rfl, z⟩
  rw [hu] at this; cases this
theorem LOk.few (h : LOk st) (hu : unsaidOf st = []) : st.heads.length ≤ st.notes.length := by
  have := nodup_sub_length (m := st.notes.map Prod.fst) h.hn fun g hg => by
    have h1 := h.said hu hg (l := g) (by simp [linesOf]) h.t0
    rw [List.append_nil] at h1
    cases hk : lk st.notes g with
    | none => exact absurd hk h1
    | some v => exact List.mem_map.mpr ⟨_, lk_some_mem hk, rfl⟩
  rwa [List.length_map] at this
theorem LOk.grow (h : LOk st) (hu : unsaidOf st = []) (he : looseOf st = some w) : LOk (growH st w) := by
  obtain ⟨⟨g, hg, hw⟩, hi⟩ := loose_edge_of he
  have hf := h.few hu
  have hgw := h.hw g hg
  have hew := edge_ok hgw.1 hw
  refine ⟨h.d1, h.d6, fun x hx => ?_, ?_, ?_, h.tw, h.t0, h.tl, h.nl⟩
  · show WordOk st.d x ∧ x.length ≤ (st.heads ++ [w]).length
    rw [List.length_append]
    rcases List.mem_append.mp (show x ∈ st.heads ++ [w] from hx) with q | q
    · have := h.hw x q
      exact ⟨this.1, by omega⟩
    · rw [List.mem_singleton.mp q]
      exact ⟨hew.1, by simp; omega⟩
  · exact List.nodup_append.mpr ⟨h.hn, by simp, fun a ha b hb => by
      rw [List.mem_singleton.mp hb]
      exact fun z => hi (List.mem_map.mpr ⟨a, ha, by rw [z]⟩)⟩
  · show (st.heads ++ [w]).length ≤ st.notes.length + 1
    rw [List.length_append]; simp; omega
theorem LOk.fill (h : LOk st) : LOk (fillW st) := ⟨h.d1, h.d6, h.hw, h.hn, h.hl, h.tw, h.t0, h.tl, h.nl⟩
end
end Ask
namespace Ask
def metOf (l : List Wd) : List (Wd × Bool) := l.map fun w => (w, true)
theorem lk_met {l : List Wd} {w : Wd} : lk (metOf l) w = if w ∈ l then some true else none := by
  induction l with
  | nil => rfl
  | cons e l ih =>
    show lk ((e, true) :: metOf l) w = _
    rw [lk_cons, ih]
    by_cases h : e = w
    · rw [if_pos h, if_pos (by simp [h])]
    · rw [if_neg h]
      by_cases q : w ∈ l
      · rw [if_pos q, if_pos (by simp [q])]
      · rw [if_neg q, if_neg (by simp [q, Ne.symm h])]
theorem ins_met {l : List Wd} {w : Wd} (h : w ∉ l) : ins (metOf l) w true = metOf (l ++ [w]) := by
  rw [ins_new (by rw [lk_met, if_neg h])]
  unfold metOf; rw [List.map_append]; rfl
theorem met_len {l : List Wd} : (metOf l).length = l.length := by simp [metOf]
end Ask
/-! Rows of what was said, compared. -/
namespace Ask
open PySem L2
abbrev RowB := List (Option Bool)
abbrev rowO (r : RowB) : Dt := .lst (r.map (optD Dt.bl))
theorem enc_obl : Enc (optD Dt.bl) 0 := enc_bl.opt fun _ h => nomatch h
theorem enc_rowO : Enc rowO 1 := enc_obl.lst
def ixO {α : Type} [DecidableEq α] : List α → α → Nat
  | [], _ => 0
  | e :: l, p => if e = p then 0 else ixO l p + 1
section
variable {α : Type} [DecidableEq α]
theorem ixO_get : ∀ {l : List α} {p : α}, p ∈ l → l[ixO l p]? = some p
  | e :: l, p, h => by
    unfold ixO
    by_cases q : e = p
    · rw [if_pos q, q]; rfl
    · rw [if_neg q, List.getElem?_cons_succ]
      exact ixO_get ((List.mem_cons.mp h).resolve_left (Ne.symm q))
theorem ixO_lt {l : List α} {p : α} (h : p ∈ l) : ixO l p < l.length := (List.getElem?_eq_some_iff.mp (ixO_get h)).1
theorem ixO_no : ∀ {l : List α} {p z : α} {m : Nat}, m < ixO l p → l[m]? = some z → z ≠ p
  | [], p, z, m, h, e => by simp at e
  | e :: l, p, z, m, h, hz => by
    unfold ixO at h
    by_cases q : e = p
    · rw [if_pos q] at h; omega
    · rw [if_neg q] at h
      cases m with
      | zero => simp only [List.getElem?_cons_zero, Option.some.injEq] at hz; rw [← hz]; exact q
      | succ m => rw [List.getElem?_cons_succ] at hz; exact ixO_no (by omega) hz
end
theorem toPys_get {ds : List Dt} {j : Nat} : (toPys ds)[j]? = (ds[j]?).map toPy := by
  induction ds generalizing j with
  | nil => simp [toPys]
  | cons d ds ih =>
    cases j with
    | zero => simp [toPys]
    | succ j => simp [toPys, ih]
section
variable {K : PySem.W.Frag} {B : Fr} {M : Ms} {Φ : Dt → Ms → Prop} {x y : Dt} {α : Type} [DecidableEq α] {f : α → Dt} {n : Nat}
theorem m_indexE (e : Enc f n) (hn : n ≤ 63) {a : α} {l : List α} (h1 : Val M x (f a)) (h2 : Val M y (.lst (l.map f))) (ha : a ∈ l) (hr : ∃ p, y = .ref p ∨ ∃ es, y = .lst es) (k : Φ (.int (ixO l a : Nat)) M) : OpM K B (rIndexD K) y [x] M Φ := fun G H v vs Q L r1 rs q => by
  cases rs with | cons r2 r0 =>
    cases r0
    rename_i w
    have hv : ∃ p, v = V.ref p := by
      obtain ⟨p, rfl | ⟨es, rfl⟩⟩ := hr
      · exact ⟨p, r1.refOf⟩
      · cases r1; exact ⟨_, rfl⟩
    obtain ⟨p, rfl⟩ := hv
    have d2 := h2.dp L r1
    simp only [toPy] at d2
    have z : SeqAt.shaped (.list (toPys (l.map f))) = true := by
      have := shaped_of (d := .lst (l.map f)) (e.lst.dat l) (Nat.le_trans (e.lst.dep l) (by omega))
      simpa only [toPy] using this
    refine ⟨p, w, toPy (f a), toPys (l.map f), ixO l a, toPy (f a), rfl, rfl, d2, h1.dp L r2, z, shaped_of (e.dat a) (Nat.le_trans (e.dep a) (by omega)), ?_, (e.eqv a a).mpr rfl, fun m z' hm hz => ?_, q _ _ M G H L (Ex.refl G) (.int _) k⟩
    · rw [toPys_get, List.getElem?_map, ixO_get ha]; rfl
    · rw [toPys_get, List.getElem?_map] at hz
      cases hl : l[m]? with
      | none => rw [hl] at hz; cases hz
      | some b =>
        rw [hl] at hz
        obtain rfl : toPy (f b) = z' := Option.some.inj hz
        have := ixO_no hm hl
        cases hq : PyData.eqv (toPy (f b)) (toPy (f a)) with
        | false => rfl
        | true => exact absurd ((e.eqv b a).mp hq) this
instance s_ninRows {r : RowB} {l : List RowB} : Stp (Op2 K B (rNotInD K) (.lst (r.map (optD Dt.bl))) (.lst (l.map rowO)) M Φ) (Φ (.bl (!decide (r ∈ l))) M) := ⟨fun k => p_ninE enc_rowO (by decide) (.imm (enc_rowO.dat r)) (.imm (enc_rowO.lst.dat l)) fun c hc => by
  have : c = !decide (r ∈ l) := by cases c <;> simp_all
  rw [this]; exact k⟩
instance s_idxRows {r : RowB} {l : List RowB} : Stp (OpM K B (rIndexD K) (.lst (l.map rowO)) [.lst (r.map (optD Dt.bl))] M Φ) (Pre (r ∈ l) (Φ (.int (ixO l r : Nat)) M)) := ⟨fun k => m_indexE enc_rowO (by decide) (.imm (enc_rowO.dat r)) (.imm (enc_rowO.lst.dat l)) k.1 ⟨0, .inr ⟨_, rfl⟩⟩ k.2⟩
end
end Ask
namespace Ask
theorem find_at {α β : Type} {l : List α} {f : α → List β} {p : β → Bool} {i j : Nat} {g : α} {e : β} (hg : l[i]? = some g) (h1 : ((l.take i).flatMap f).find? p = none) (hj : (f g)[j]? = some e) (h2 : ((f g).take j).find? p = none) (hp : p e = true) : (l.flatMap f).find? p = some e := by
  have hi := (List.getElem?_eq_some_iff.mp hg).1
  have hjl := (List.getElem?_eq_some_iff.mp hj).1
  have e1 : l = l.take i ++ g :: l.drop (i + 1) := by
    have := List.take_append_drop i l
    rw [List.drop_eq_getElem_cons hi] at this
    rw [← Option.some.inj ((List.getElem?_eq_getElem hi).symm.trans hg)]
    exact this.symm
  have e2 : f g = (f g).take j ++ e :: (f g).drop (j + 1) := by
    have := List.take_append_drop j (f g)
    rw [List.drop_eq_getElem_cons hjl] at this
    rw [← Option.some.inj ((List.getElem?_eq_getElem hjl).symm.trans hj)]
    exact this.symm
  rw [e1, List.flatMap_append, List.find?_append, h1, List.flatMap_cons, List.find?_append]
  rw [e2, List.find?_append, h2, List.find?_cons_of_pos hp]; rfl
end Ask
/-! A learner made; a question handed back. -/
namespace Ask
open PySem L2
def initOf (d : Int) : LSt := settleOf ⟨d, [], [[]], [[]], []⟩
def fnLnI (CL CB X : Addr) : FT := fun ds M Φ Ξ => ∃ p doors, ds = [.ref p, .int doors] ∧ M = [.one p (.ins CL [] [])] ∧ (1 ≤ doors ∧ doors ≤ 6 → ∀ b n h t, Φ .non (lrnM CL CB p b n h t (initOf doors))) ∧ (¬ (1 ≤ doors ∧ doors ≤ 6) → Ξ X [.one p (.ins CL [] [])])
def fnLnQ (CL CB : Addr) : FT := fun ds M Φ _ => ∃ L b n h t st, ds = [.ref L] ∧ M = lrnM CL CB L b n h t st ∧ (st.waiting = [] → Φ .non (lrnM CL CB L b n h t st)) ∧ ∀ w ws p, st.waiting = w :: ws → Φ (.ref p) (.one p (.lst (w.map Dt.int)) :: lrnM CL CB L b n h t st)
section
variable {K : PySem.W.Frag} {B : Fr} {s : Sl} {M M' : Ms} {Φ : Dt → Ms → Prop} {te : TE} {t : TA} {n : Nat} {ds : List Dt} {W : WX} {Ξ : Addr → Sl → Ms → Prop} {CL CB X : Addr} {m : Str}
def CallLnI (M : Ms) (as : List Dt) (A : Int → Prop) (E : Prop) : Prop := ∃ doors, as = [.int doors] ∧ (1 ≤ doors ∧ doors ≤ 6 → A doors) ∧ (¬ (1 ≤ doors ∧ doors ≤ 6) → E)
def OwnLn (B : Fr) (CL CB : Addr) (doors : Int) (Φ : Dt → Ms → Prop) (M : Ms) : Prop := ∀ p b n h t, (∀ a ∈ [p, b, n, h, t], a ∉ B.T) → Φ (.ref p) (lrnM CL CB p b n h t (initOf doors) ++ M)
instance s_makeLn [z : XOkC K B W Ξ] : Stp (EvW K B (tMakeS CL (spG K 2 (fnLnI CL CB X)) (WE W) t) s M Φ) (EvA K B t s M fun as M1 => CallLnI M1 as (fun doors => OwnLn B CL CB doors Φ M1) (Ξ X s M1)) := ⟨fun h => by
  refine fun G H σ Q L S q => h G H σ _ L S fun vs as M' G' H' L' e r c p dx hp hdx hne => ?_
  obtain ⟨doors, rfl, k1, k2⟩ := c
  have hpT : p ∉ B.T := fun z => L'.freshM hp (L'.tin p z)
  have Ld := L'.laid0 (o := .own p) hdx
  have hp' : upd H' dx (.own p) p = none := by rw [upd_ne hne.symm]; exact hp
  have Lx : Lay K B G' (.one p (.ins CL [] []) :: M') (upd (upd H' dx (.own p)) p (.ins CL dx [])) := Ld.laidM (c := .ins CL [] []) hp' ⟨dx, [], upd_same, rfl, .nil⟩
  refine call_core (n := 2) (F := fnLnI CL CB X) (ds := [.ref p, .int doors]) (Ma := [.one p (.ins CL [] [])]) (Mr := M') (Φ := fun d M2 => d = .non ∧ (1 ≤ doors ∧ doors ≤ 6) ∧ ∃ b n h t, M2 = lrnM CL CB p b n h t (initOf doors) ++ M') (Ξc := fun Y s2 M2 => s2 = s ∧ Y = X ∧ ¬ (1 ≤ doors ∧ doors ≤ 6) ∧ M2 = .one p (.ins CL [] []) :: M') (fun Y s2 M2 G2 H2 σ2 L2 S2 k => ?_) rfl (.refl _)
    ⟨p, doors, rfl, rfl, fun hd b n h t => ⟨rfl, hd, b, n, h, t, rfl⟩, fun hd => ⟨rfl, rfl, hd, rfl⟩⟩ Lx (S.mono e) (.cons (.ref p) r) fun v d M2 G2 H2 L2 e2 r2 k => ?_
  · obtain ⟨rfl, rfl, hd, rfl⟩ := k
    exact z.h _ s2 M' G2 H2 σ2 (L2.forget hpT) S2 (k2 hd)
  · obtain ⟨rfl, hd, b, nn, hh, tt, rfl⟩ := k
    have nd := L2.nd
    rw [fpM_app] at nd
    refine ⟨r2.nonOf, q _ _ _ G2 H2 L2 (e.trans e2) (.ref p) (k1 hd p b nn hh tt fun a ha zz => ?_)⟩
    exact (List.nodup_append.mp nd).2.2 a (by simpa [fpM, Ent.fp] using ha) a (L'.tin a zz) rfl⟩
instance s_callLnI {doors : Int} {A : Int → Prop} {E : Prop} : Stp (CallLnI M [.int doors] A E) (Br (1 ≤ doors ∧ doors ≤ 6) (A doors) E) := ⟨fun k => ⟨doors, rfl, k.1, k.2⟩⟩
/-- what a question is -/
def AskQn (M : Ms) (B : Fr) (CL CB : Addr) (o : Dt) (A : Dt → Ms → Prop) : Prop := ∃ L b n h t st, o = .ref L ∧ (∃ Mr, M.Perm (lrnM CL CB L b n h t st ++ Mr)) ∧ (st.waiting = [] → A .non M) ∧ ∀ w ws, st.waiting = w :: ws → ∀ p, p ∉ B.T → A (.ref p) (.one p (.lst (w.map Dt.int)) :: M)
instance s_methQn : Stp (EvW K B (tMethS CL m (spG K 1 (fnLnQ CL CB)) (WE W) te tNil) s M Φ) (EvW K B te s M fun o M1 => LrnAt M1 CL m o (AskQn M1 B CL CB o Φ)) := ⟨fun h => fun G H σ Q L S q =>
  h G H σ _ L S fun v o M1 G1 H1 L1 e1 r1 h1 => by
    obtain ⟨a, b0, h0, t0, d0, w0, rfl, hb, hm, L, b, nn, hh, tt, st, e2, ⟨Mr, hp⟩, k1, k2⟩ := h1
    cases e2
    obtain ⟨dx, ws, ea, l, _⟩ := L1.ats _ hb
    refine ⟨a, dx, _, r1.refOf, ea, lookF_none hm, rfl, G1, lrnM CL CB a b nn hh tt st, [.ref a], fun d M' => (st.waiting = [] ∧ d = .non ∧ M' = lrnM CL CB a b nn hh tt st) ∨ ∃ w ws p, st.waiting = w :: ws ∧ d = .ref p ∧ M' = .one p (.lst (w.map Dt.int)) :: lrnM CL CB a b nn hh tt st, fun _ _ => False, (L1.perm hp).enter, .cons r1 .nil,
      ⟨a, b, nn, hh, tt, st, rfl, rfl, fun e => .inl ⟨e, rfl, rfl⟩, fun w ws p e => .inr ⟨w, ws, p, e, rfl, rfl⟩⟩, fun v d M' G' H' L' r' kk => ?_, fun _ _ _ _ _ k => k.elim⟩
    have ex := e1.trans (L'.grown L1.sub)
    rcases kk with ⟨hw, rfl, rfl⟩ | ⟨w, ws, p, hw, rfl, rfl⟩
    · have Lb : Lay K B G' (lrnM CL CB a b nn hh tt st ++ Mr) H' := Lay.back (L1.perm hp) L'
      exact q _ _ _ G' H' (Lb.perm hp.symm) ex r' (k1 hw)
    · have Lb : Lay K B G' ((.one p (.lst (w.map Dt.int)) :: lrnM CL CB a b nn hh tt st) ++ Mr) H' := Lay.back (Ma := lrnM CL CB a b nn hh tt st) (L1.perm hp) L'
      have LW : Lay K B G' (.one p (.lst (w.map Dt.int)) :: M1) H' := Lb.perm (hp.symm.cons _)
      have nd := LW.nd
      rw [fpM_cons] at nd
      exact q _ _ _ G' H' LW ex r' (k2 w ws hw p fun z => (List.nodup_append.mp nd).2.2 p (by simp [Ent.fp]) p (L1.tin p z) rfl)⟩
instance s_methQnO : Stp (EvW K B (tOwn (tMethS CL m (spG K 1 (fnLnQ CL CB)) (WE W) te tNil)) s M Φ) (EvW K B (tMethS CL m (spG K 1 (fnLnQ CL CB)) (WE W) te tNil) s M Φ) := ⟨id⟩
section
variable {L b nn h tt : Addr} {d : Int} {notes : Notes} {heads tails waiting : List (List Int)} {A : Dt → Ms → Prop} {M1 M2 M3 M4 M5 : Ms}
instance s_askQn [c1 : TakeC M L (lrnI CL b h tt d waiting) M1] [c2 : TakeC M1 b (bookI CB nn d) M2] [c3 : TakeC M2 nn (bookD notes) M3] [c4 : TakeC M3 h (.lst (heads.map dInts)) M4] [c5 : TakeC M4 tt (.lst (tails.map dInts)) M5] :
    Stp (AskQn M B CL CB (.ref L) A) ((waiting = [] → A .non M) ∧ ∀ w ws, waiting = w :: ws → ∀ p, p ∉ B.T → A (.ref p) (.one p (.lst (w.map Dt.int)) :: M)) := ⟨fun k => ⟨L, b, nn, h, tt, ⟨d, notes, heads, tails, waiting⟩, rfl, ⟨M5, c1.h.trans ((c2.h.trans ((c3.h.trans ((c4.h.trans (c5.h.cons _)).cons _)).cons _)).cons _)⟩, k.1, k.2⟩⟩
end
section
variable {vs : List V} {H : Hp} {Q : VK} {E : XK} {ts : TS} {N : List Str}
theorem enterLnI (h : spG K 2 (fnLnI CL CB X) vs H Q E)
    (k : ∀ (B : Fr) (p : Addr) (doors : Int), B.T = [p] → XOkC K B (WF E) (fun Y _ M => Y = X ∧ ¬ (1 ≤ doors ∧ doors ≤ 6) ∧ M = [.one p (.ins CL [] [])]) →
      WPs K B ts { nx := fun _ M => (1 ≤ doors ∧ doors ≤ 6) ∧ ∃ b n h t, M.Perm (lrnM CL CB p b n h t (initOf doors)), rt := fun d M => False } (startD N.length [.ref p, .int doors]) [.one p (.ins CL [] [])]) :
    ts { nx := fun _ H' => Q .non H', rt := Q } (L2.start N vs) H := by
  obtain ⟨hl, G, M, ds, Φ, Ξ, L, rp, ⟨p, doors, rfl, rfl, k1, k2⟩, kQ, kE⟩ := h
  refine k ⟨G, H, [p]⟩ p doors rfl ⟨fun Y s M' G' H' σ L' _ z => ?_⟩ _ G H _ ⟨fun s M' G' H' σ z L' _ _ => ?_, fun v d M' G' H' z L' _ r' => z.elim, fun _ _ _ _ _ x => x.elim, fun _ _ _ _ _ x => x.elim⟩ L (slots_start rp)
  · obtain ⟨rfl, hd, rfl⟩ := z; exact kE _ _ G' H' L' (k2 hd)
  · obtain ⟨hd, b, nn, hh, tt, hp⟩ := z; exact kQ .non .non _ G' H' (Lay.perm L' hp) .non (k1 hd b nn hh tt)
theorem enterLnQ (h : spG K 1 (fnLnQ CL CB) vs H Q E)
    (k : ∀ (B : Fr) (L b n h t : Addr) (st : LSt),
      WPs K B ts { nx := fun _ M => False, rt := fun d M => (st.waiting = [] ∧ d = .non ∧ M = lrnM CL CB L b n h t st) ∨ ∃ w ws p, st.waiting = w :: ws ∧ d = .ref p ∧ M = .one p (.lst (w.map Dt.int)) :: lrnM CL CB L b n h t st } (startD N.length [.ref L]) (lrnM CL CB L b n h t st)) :
    ts { nx := fun _ H' => Q .non H', rt := Q } (L2.start N vs) H := by
  obtain ⟨hl, G, M, ds, Φ, Ξ, Ly, rp, ⟨L, b, nn, hh, tt, st, rfl, rfl, k1, k2⟩, kQ, kE⟩ := h
  refine k ⟨G, H, fpM (lrnM CL CB L b nn hh tt st)⟩ L b nn hh tt st _ G H _ ⟨fun s M' G' H' σ z L' _ _ => z.elim, fun v d M' G' H' z L' _ r' => ?_, fun _ _ _ _ _ x => x.elim, fun _ _ _ _ _ x => x.elim⟩ Ly (slots_start rp)
  rcases z with ⟨hw, rfl, rfl⟩ | ⟨w, ws, p, hw, rfl, rfl⟩
  · exact kQ v _ _ G' H' L' r' (k1 hw)
  · exact kQ v _ _ G' H' L' r' (k2 w ws p hw)
end
end
section
variable {K : PySem.W.Frag} {B : Fr} {M : Ms} {Φ : Dt → Ms → Prop} {x y : Dt} {CL CB : Addr} {d : Int}
instance s_ownBk : Stp (OwnBk B CB d Φ M) (∀ p n, p ∉ B.T → n ∉ B.T → Φ (.ref p) (.one p (bookI CB n d) :: .one n (bookD []) :: M)) := ⟨id⟩
instance s_ninWords {a : List Int} {l : List (List Int)} [h : LstC M y (l.map dInts)] : Stp (Op2 K B (rNotInD K) (.lst (a.map Dt.int)) y M Φ) (Φ (.bl (!decide (a ∈ l))) M) := ⟨fun k => p_ninE enc_ints (by decide) (.imm (enc_ints.dat a)) (vals_enc enc_ints h.h) fun c hc => by
  have : c = !decide (a ∈ l) := by cases c <;> simp_all
  rw [this]; exact k⟩
instance s_inWords {a : List Int} {l : List (List Int)} [h : LstC M y (l.map dInts)] : Stp (Op2 K B (rInD K) (.lst (a.map Dt.int)) y M Φ) (Φ (.bl (decide (a ∈ l))) M) := ⟨fun k => p_inE enc_ints (by decide) (.imm (enc_ints.dat a)) (vals_enc enc_ints h.h) fun c hc => by
  have : c = decide (a ∈ l) := by cases c <;> simp_all
  rw [this]; exact k⟩
end
section
variable {M M1 M2 M3 M4 M5 : Ms} {L b nn h t CL CB : Addr} {d : Int} {notes : Notes} {heads tails waiting : List (List Int)} {A : Dt → Ms → Prop} {E : Addr → Prop} {v : Dt} {st : LSt}
instance (priority := low) s_resln_st [u1 : PutC M L (lrnI CL b h t d waiting) (lrnI CL b h t st.d st.waiting) M1] [u0 : PutC M1 b (bookI CB nn d) (bookI CB nn st.d) M2] [u2 : PutC M2 nn (bookD notes) (bookD st.notes) M3] [u3 : PutC M3 h (.lst (heads.map dInts)) (.lst (st.heads.map dInts)) M4] [u4 : PutC M4 t (.lst (tails.map dInts)) (.lst (st.tails.map dInts)) M5] :
    Stp (ResLn M L b nn h t CL CB ⟨d, notes, heads, tails, waiting⟩ (.ok (v, st)) A E) (A v M5) := ⟨fun k => ⟨fun _ _ e => by
  cases e
  refine ⟨M5, fun Mr hp => ?_, k⟩
  have h1 := upd_to u1.h hp
  have h2 := upd_to u0.h (h1.trans ((List.perm_middle (l₁ := [_]))))
  have h3 := upd_to u2.h (h2.trans ((List.perm_middle (l₁ := [_, _]))))
  have h4 := upd_to u3.h (h3.trans ((List.perm_middle (l₁ := [_, _, _]))))
  have h5 := upd_to u4.h (h4.trans ((List.perm_middle (l₁ := [_, _, _, _]))))
  refine h5.trans ?_
  refine List.Perm.trans (List.perm_append_right_iff (l₁ := [_, _, _, _, _]) Mr |>.mpr (List.reverse_perm _).symm) (.refl _), fun _ e => by cases e⟩⟩
end
theorem perm5 {a b c d e : Ent} : [e, d, b, c, a].Perm [a, b, c, d, e] := by
  refine (List.perm_middle (a := a) (l₁ := [e, d, b, c]) (l₂ := [])).trans (List.Perm.cons a ?_)
  exact (List.perm_middle (a := b) (l₁ := [e, d]) (l₂ := [c])).trans (List.Perm.cons b ((List.perm_middle (a := c) (l₁ := [e, d]) (l₂ := [])).trans (List.Perm.cons c (List.Perm.swap _ _ _))))
end Ask
namespace Ask
open PySem L2
theorem enterXM2 {K : PySem.W.Frag} {R : Ms → List Dt → Except Addr Dt → Prop} {n : Nat} {vs : List V} {H : Hp} {Q : VK} {E : XK} {ts : TS} {N : List Str} (h : spG K n (fnXM R) vs H Q E)
    (k : ∀ (B : Fr) (M : Ms) (ds : List Dt) (r : Except Addr Dt), R M ds r → XOkC K B (WF E) (fun C _ M' => r = .error C ∧ ∃ Mr, M'.Perm (M ++ Mr)) → WPs K B ts { nx := fun _ M' => r = .ok .non ∧ ∃ Mr, M'.Perm (M ++ Mr), rt := fun d' M' => r = .ok d' ∧ ∃ Mr, M'.Perm (M ++ Mr) } (startD N.length ds) M) :
    ts { nx := fun _ H' => Q .non H', rt := Q } (L2.start N vs) H := by
  obtain ⟨hl, G, M, ds, Φ, Ξ, L, rp, ⟨x, hr, k1, k2⟩, kQ, kE⟩ := h
  refine k ⟨G, H, fpM M⟩ M ds x hr ⟨fun C s M' G' H' σ L' _ z => ?_⟩ _ G H _ ⟨fun s M' G' H' σ z L' _ _ => ?_, fun v d M' G' H' z L' _ r' => ?_, fun _ _ _ _ _ x => x.elim, fun _ _ _ _ _ x => x.elim⟩ L (slots_start rp)
  · obtain ⟨z, Mr, hp⟩ := z; exact kE C _ _ _ ((L'.perm hp).forgetsT fun a h => h) (k2 C z)
  · obtain ⟨z, Mr, hp⟩ := z; exact kQ .non .non _ G' H' ((L'.perm hp).forgetsT fun a h => h) .non (k1 _ z)
  · obtain ⟨z, Mr, hp⟩ := z; exact kQ v _ _ G' H' ((L'.perm hp).forgetsT fun a h => h) r' (k1 _ z)
end Ask
/-! What a learner does, step by step. -/
namespace Ask
structure LInv (st : LSt) : Prop where
  ok : LOk st
  wt : st.waiting = unsaidOf st
  lo : st.waiting = [] → looseOf st = none
theorem looseOf_w {st : LSt} {w : List Wd} : looseOf { st with waiting := w } = looseOf st := rfl
theorem unsaidOf_w {st : LSt} {w : List Wd} : unsaidOf { st with waiting := w } = unsaidOf st := rfl
/-- what settling leaves as it is -/
structure Same (a b : LSt) : Prop where
  d : b.d = a.d
  n : b.notes = a.notes
  t : b.tails = a.tails
  h : a.heads <+: b.heads
theorem Same.refl {a : LSt} : Same a a := ⟨rfl, rfl, rfl, List.prefix_refl _⟩
theorem settleF_ok : ∀ {f : Nat} {st : LSt}, LOk st → st.waiting = unsaidOf st → st.notes.length + 2 ≤ f + st.heads.length → LInv (settleF f st) ∧ Same st (settleF f st)
  | 0, st, h, hw, hf => by
    have := h.hl
    omega
  | f + 1, st, h, hw, hf => by
    unfold settleF
    by_cases hz : st.waiting = []
    · rw [if_pos hz]
      cases hl : looseOf st with
      | none => exact ⟨⟨h, hw, fun _ => hl⟩, Same.refl⟩
      | some e =>
        have hu : unsaidOf st = [] := hw ▸ hz
        have hg := h.grow hu hl
        have e1 : (growH st e).heads = st.heads ++ [e] := rfl
        obtain ⟨a, b⟩ := settleF_ok (f := f) hg rfl (by rw [e1]; show st.notes.length + 2 ≤ _; simp; omega)
        exact ⟨a, b.d, b.n, b.t, (List.prefix_append st.heads [e]).trans b.h⟩
    · rw [if_neg hz]
      exact ⟨⟨h, hw, fun z => absurd z hz⟩, Same.refl⟩
theorem settle_ok {st : LSt} (h : LOk st) : LInv (settleOf st) ∧ Same st (settleOf st) := by
  obtain ⟨a, b⟩ := settleF_ok (f := st.notes.length + 2) (st := fillW st) h.fill rfl (by show _ ≤ _; exact Nat.le_add_right _ _)
  exact ⟨a, b.d, b.n, b.t, b.h⟩
theorem init_ok {d : Int} (h1 : 1 ≤ d) (h6 : d ≤ 6) : LOk ⟨d, [], [[]], [[]], []⟩ :=
  ⟨h1, h6, fun w hw => by rw [List.mem_singleton.mp hw]; exact ⟨fun x hx => (by cases hx), by simp⟩, by simp, by simp, fun w hw => by rw [List.mem_singleton.mp hw]; exact ⟨fun x hx => (by cases hx), by simp⟩, by simp, by simp, by simp⟩
/-- all words that are looked at, in order -/
def candsOf (d : Int) (heads tails : List Wd) : List Wd := heads.flatMap fun h => (linesOf d h).flatMap fun l => tails.map fun t => l ++ t
theorem uT_cands {notes : Notes} {line : Wd} : ∀ {tails acc : List Wd}, uT notes tails acc line = (tails.map fun t => line ++ t).foldl (pushU notes) acc
  | [], _ => rfl
  | t :: r, acc => by
    show uT notes r (pushU notes acc (line ++ t)) line = _
    rw [uT_cands]; rfl
theorem uL_cands {notes : Notes} {tails : List Wd} : ∀ {lines acc : List Wd}, uL notes tails acc lines = (lines.flatMap fun l => tails.map fun t => l ++ t).foldl (pushU notes) acc
  | [], _ => rfl
  | l :: r, acc => by
    show uL notes tails (uT notes tails acc l) r = _
    rw [uL_cands, uT_cands, List.flatMap_cons, List.foldl_append]
theorem uH_cands {d : Int} {notes : Notes} {tails : List Wd} : ∀ {heads acc : List Wd}, heads.foldl (fun acc h => uL notes tails acc (linesOf d h)) acc = (candsOf d heads tails).foldl (pushU notes) acc
  | [], _ => rfl
  | h :: r, acc => by
    rw [List.foldl_cons, uH_cands, uL_cands]
    show _ = (List.flatMap _ (h :: r)).foldl _ _
    rw [List.flatMap_cons, List.foldl_append]; rfl
theorem unsaid_cands {st : LSt} : unsaidOf st = (candsOf st.d st.heads st.tails).foldl (pushU st.notes) [] := uH_cands
theorem push_less {notes : Notes} {w0 : Wd} {v : Bool} (h0 : lk notes w0 = none) : ∀ {l acc : List Wd}, l.foldl (pushU (notes ++ [(w0, v)])) (acc.filter fun x => decide (x ≠ w0)) = (l.foldl (pushU notes) acc).filter fun x => decide (x ≠ w0)
  | [], _ => rfl
  | w :: l, acc => by
    rw [List.foldl_cons, List.foldl_cons, ← push_less h0]
    congr 1
    by_cases e : w = w0
    · subst e
      have h1 : lk (notes ++ [(w, v)]) w ≠ none := by rw [lk_snoc, h0]; simp
      unfold pushU
      rw [if_neg (fun z => h1 z.1)]
      split
      · rw [List.filter_append]; simp
      · rfl
    · have h1 : lk (notes ++ [(w0, v)]) w = lk notes w := by rw [lk_snoc, if_neg (Ne.symm e)]; cases lk notes w <;> rfl
      unfold pushU
      rw [h1]
      by_cases q : lk notes w = none ∧ w ∉ acc
      · rw [if_pos q, if_pos ⟨q.1, fun z => q.2 (List.mem_filter.mp z).1⟩, List.filter_append]
        simp [e]
      · rw [if_neg q, if_neg]
        intro z
        exact q ⟨z.1, fun z2 => z.2 (List.mem_filter.mpr ⟨z2, by simpa using e⟩)⟩
theorem unsaid_tail {st : LSt} {w0 : Wd} {ws : List Wd} {v : Bool} (h : unsaidOf st = w0 :: ws) : unsaidOf { st with notes := st.notes ++ [(w0, v)] } = ws := by
  have hm : w0 ∈ unsaidOf st := by rw [h]; simp
  obtain ⟨_, _, _, _, _, _, _, h0⟩ := mem_uH.mp hm
  have hn : (unsaidOf st).Nodup := nd_uH
  rw [h, List.nodup_cons] at hn
  have := push_less (v := v) h0 (l := candsOf st.d st.heads st.tails) (acc := [])
  rw [← unsaid_cands, h] at this
  rw [unsaid_cands]
  show (candsOf st.d st.heads st.tails).foldl (pushU (st.notes ++ [(w0, v)])) [] = ws
  rw [List.filter_nil] at this
  rw [this, List.filter_cons_of_neg (by simp)]
  exact List.filter_eq_self.mpr fun x hx => by
    have : x ≠ w0 := fun z => hn.1 (z ▸ hx)
    simpa using this
def answerOf (st : LSt) (lit : Bool) : LSt := match st.waiting with
  | [] => st
  | w :: ws => if ws = [] then settleOf { st with notes := st.notes ++ [(w, lit)], waiting := [] } else { st with notes := st.notes ++ [(w, lit)], waiting := ws }
theorem LOk.note {st : LSt} (h : LOk st) (hn : st.notes.length < 900) {e : Wd × Bool} {ws : List Wd} : LOk { st with notes := st.notes ++ [e], waiting := ws } :=
  ⟨h.d1, h.d6, h.hw, h.hn, by have := h.hl; show st.heads.length ≤ (st.notes ++ [e]).length + 1; simp; omega, h.tw, h.t0, h.tl, by show (st.notes ++ [e]).length ≤ 900; simp; omega⟩
theorem answer_ok {st : LSt} {w : Wd} {ws : List Wd} {lit : Bool} (h : LInv st) (hn : st.notes.length < 900) (hw : st.waiting = w :: ws) : LInv (answerOf st lit) ∧ (answerOf st lit).notes = st.notes ++ [(w, lit)] ∧ (answerOf st lit).tails = st.tails ∧ (answerOf st lit).d = st.d ∧ st.heads <+: (answerOf st lit).heads := by
  have e : answerOf st lit = if ws = [] then settleOf { st with notes := st.notes ++ [(w, lit)], waiting := [] } else { st with notes := st.notes ++ [(w, lit)], waiting := ws } := by unfold answerOf; rw [hw]
  rw [e]
  by_cases hz : ws = []
  · rw [if_pos hz]
    obtain ⟨a, b⟩ := settle_ok (st := { st with notes := st.notes ++ [(w, lit)], waiting := [] }) (h.ok.note hn)
    exact ⟨a, b.n, b.t, b.d, b.h⟩
  · rw [if_neg hz]
    exact ⟨⟨h.ok.note hn, (unsaid_tail (h.wt.symm.trans hw)).symm, fun z => absurd z hz⟩, rfl, rfl, rfl, List.prefix_refl _⟩
def rowsG (st : LSt) : List RowB := st.heads.map (rowOf st.notes st.tails)
def guessW (st : LSt) : List (List Int) := st.heads.map fun h => (edgesOf st.d h).map fun e => (ixO (rowsG st) (rowOf st.notes st.tails e) : Int)
def guessL (st : LSt) : List Bool := st.heads.map fun h => (lk st.notes h).getD false
theorem edge_row {st : LSt} (h : looseOf st = none) {g e : Wd} (hg : g ∈ st.heads) (he : e ∈ edgesOf st.d g) : rowOf st.notes st.tails e ∈ rowsG st := by
  have := List.find?_eq_none.mp h e (List.mem_flatMap.mpr ⟨g, hg, he⟩)
  have h2 : ¬ isLoose st e := by simpa using this
  exact Decidable.not_not.mp h2
theorem head_said {st : LSt} (h : LInv st) (hw : st.waiting = []) {g : Wd} (hg : g ∈ st.heads) : ∃ b, lk st.notes g = some b := by
  have h1 := h.ok.said (hw ▸ h.wt).symm hg (l := g) (by simp [linesOf]) h.ok.t0
  rw [List.append_nil] at h1
  cases hk : lk st.notes g with
  | none => exact absurd hk h1
  | some b => exact ⟨b, rfl⟩
theorem guess_house {st : LSt} (h : LInv st) (hw : st.waiting = []) (hl : st.heads.length ≤ 400) (h0 : 1 ≤ st.heads.length) : HouseOk st.d (guessW st) (guessL st) := by
  refine ⟨h.ok.d1, h.ok.d6, by simp [guessW]; omega, by simp [guessW]; omega, by simp [guessW, guessL], fun row hr => ?_⟩
  obtain ⟨g, hg, rfl⟩ := List.mem_map.mp hr
  refine ⟨by simp [edgesOf]; have := h.ok.d1; omega, fun x hx => ?_⟩
  obtain ⟨e, he, rfl⟩ := List.mem_map.mp hx
  have := ixO_lt (edge_row (h.lo hw) hg he)
  simp [guessW, rowsG] at this ⊢
  omega
def pushT (ts : List Wd) (t : Wd) : List Wd := if t ∈ ts then ts else ts ++ [t]
def endsOf (tails : List Wd) (w : Wd) : List Wd := (List.range w.length).foldl (fun ts k => pushT ts (w.drop (w.length - 1 - k))) tails
def wrongOf (st : LSt) (w : Wd) (lit : Bool) : LSt := settleOf { st with notes := ins st.notes w lit, tails := endsOf st.tails w, waiting := [] }
def endsK (tails : List Wd) (w : Wd) (k : Nat) : List Wd := (List.range k).foldl (fun ts k => pushT ts (w.drop (w.length - 1 - k))) tails
theorem endsK_succ {tails : List Wd} {w : Wd} {k : Nat} : endsK tails w (k + 1) = pushT (endsK tails w k) (w.drop (w.length - 1 - k)) := by
  unfold endsK; rw [List.range_succ, List.foldl_append]; rfl
theorem endsK_len {tails : List Wd} {w : Wd} : ∀ {k : Nat}, (endsK tails w k).length ≤ tails.length + k
  | 0 => Nat.le_refl _
  | k + 1 => by
    rw [endsK_succ]
    have := endsK_len (tails := tails) (w := w) (k := k)
    unfold pushT; split <;> simp <;> omega
theorem endsK_mem {tails : List Wd} {w x : Wd} : ∀ {k : Nat}, x ∈ endsK tails w k → x ∈ tails ∨ ∃ j, x = w.drop j
  | 0, h => .inl h
  | k + 1, h => by
    rw [endsK_succ] at h
    unfold pushT at h
    split at h
    · exact endsK_mem h
    · rcases List.mem_append.mp h with q | q
      · exact endsK_mem q
      · exact .inr ⟨_, List.mem_singleton.mp q⟩
theorem endsK_sub {tails : List Wd} {w x : Wd} (h : x ∈ tails) : ∀ {k : Nat}, x ∈ endsK tails w k
  | 0 => h
  | k + 1 => by
    rw [endsK_succ]
    unfold pushT; split
    · exact endsK_sub h
    · exact List.mem_append_left _ (endsK_sub h)
theorem ins_len {notes : Notes} {w : Wd} {v : Bool} : notes.length ≤ (ins notes w v).length ∧ (ins notes w v).length ≤ notes.length + 1 := by
  unfold ins putKD
  split
  · rw [List.length_map]; omega
  · simp
theorem wrong_pre {st : LSt} {w : Wd} {lit : Bool} {wt : List Wd} (h : LOk st) (hn : st.notes.length < 900) (hw : WordOk st.d w) (hl : w.length ≤ 1000) (ht : st.tails.length + w.length ≤ 1000) : LOk { st with notes := ins st.notes w lit, tails := endsOf st.tails w, waiting := wt } := by
  have hi := ins_len (notes := st.notes) (w := w) (v := lit)
  have hlen : (endsOf st.tails w).length ≤ st.tails.length + w.length := endsK_len (k := w.length)
  refine ⟨h.d1, h.d6, h.hw, h.hn, ?_, fun x hx => ?_, endsK_sub h.t0, ?_, ?_⟩
  · show st.heads.length ≤ (ins st.notes w lit).length + 1
    have := h.hl
    omega
  · rcases endsK_mem (k := w.length) hx with q | ⟨j, rfl⟩
    · exact h.tw x q
    · exact ⟨fun y hy => hw y (List.mem_of_mem_drop hy), by rw [List.length_drop]; omega⟩
  · show (endsOf st.tails w).length ≤ 1000
    omega
  · show (ins st.notes w lit).length ≤ 900
    omega
end Ask
namespace Ask
def nextOf (d : Int) (heads tails : List Wd) (m : Notes) : Option Wd := (candsOf d heads tails).find? fun w => decide (lk m w = none)
theorem fold_first {notes : Notes} : ∀ {l acc : List Wd}, (l.foldl (pushU notes) acc).head? = acc.head?.or (l.find? fun w => decide (lk notes w = none))
  | [], acc => by simp
  | w :: l, acc => by
    rw [List.foldl_cons, fold_first]
    unfold pushU
    by_cases h : lk notes w = none
    · rw [List.find?_cons_of_pos (by simpa using h)]
      by_cases q : w ∈ acc
      · rw [if_neg (fun z => z.2 q)]
        cases acc with
        | nil => cases q
        | cons a l => rfl
      · rw [if_pos ⟨h, q⟩]
        cases acc with
        | nil => rfl
        | cons a l => rfl
    · rw [List.find?_cons_of_neg (by simpa using h), if_neg (fun z => h z.1)]
theorem next_unsaid {st : LSt} : nextOf st.d st.heads st.tails st.notes = (unsaidOf st).head? := by
  rw [unsaid_cands, fold_first]; rfl
end Ask
namespace Ask
theorem find_app {α β : Type} {l : List α} {f : α → List β} {p : β → Bool} {i : Nat} {g : α} {e : β} (hg : l[i]? = some g) (h1 : ((l.take i).flatMap f).find? p = none) (h2 : (f g).find? p = some e) : (l.flatMap f).find? p = some e := by
  have hi := (List.getElem?_eq_some_iff.mp hg).1
  have e1 : l = l.take i ++ g :: l.drop (i + 1) := by
    have := List.take_append_drop i l
    rw [List.drop_eq_getElem_cons hi] at this
    rw [← Option.some.inj ((List.getElem?_eq_getElem hi).symm.trans hg)]
    exact this.symm
  rw [e1, List.flatMap_append, List.find?_append, h1, List.flatMap_cons, List.find?_append, h2]; rfl
end Ask
namespace Ask
theorem settle_same {st : LSt} (h : LInv st) (hw : st.waiting = []) : (settleOf ⟨st.d, st.notes, st.heads, st.tails, []⟩).heads = st.heads := by
  have hu : unsaidOf st = [] := (hw ▸ h.wt).symm
  have hl := h.lo hw
  show (if unsaidOf ⟨st.d, st.notes, st.heads, st.tails, []⟩ = [] then _ else _ : LSt).heads = _
  rw [if_pos (show unsaidOf ⟨st.d, st.notes, st.heads, st.tails, []⟩ = [] from hu)]
  show (match looseOf st with | none => _ | some e => _ : LSt).heads = _
  rw [hl]; rfl
theorem answer_heads {st : LSt} {w : Wd} {ws : List Wd} {lit : Bool} (h : LInv st) (hw : st.waiting = w :: ws) : (settleOf ⟨st.d, st.notes ++ [(w, lit)], st.heads, st.tails, []⟩).heads = (answerOf st lit).heads := by
  have e : answerOf st lit = if ws = [] then settleOf { st with notes := st.notes ++ [(w, lit)], waiting := [] } else { st with notes := st.notes ++ [(w, lit)], waiting := ws } := by unfold answerOf; rw [hw]
  rw [e]
  by_cases hz : ws = []
  · rw [if_pos hz]
  · rw [if_neg hz]
    have hu : unsaidOf ⟨st.d, st.notes ++ [(w, lit)], st.heads, st.tails, []⟩ = ws := unsaid_tail (v := lit) (h.wt.symm.trans hw)
    show (if unsaidOf ⟨st.d, st.notes ++ [(w, lit)], st.heads, st.tails, []⟩ = [] then _ else _ : LSt).heads = _
    rw [hu, if_neg hz]; rfl
theorem endsOf_len {tails : List Wd} {w : Wd} : (endsOf tails w).length ≤ tails.length + w.length := endsK_len (k := w.length)
end Ask
namespace Ask
theorem settle_init {d : Int} : (settleOf ⟨d, [], [[]], [[]], []⟩).heads = [[]] := by
  have hm : ([] : Wd) ∈ unsaidOf ⟨d, [], [[]], [[]], []⟩ := mem_uH.mpr ⟨[], by simp, [], by simp [linesOf], [], by simp, rfl, rfl⟩
  have hne : unsaidOf ⟨d, [], [[]], [[]], []⟩ ≠ [] := fun z => by rw [z] at hm; cases hm
  show (if unsaidOf ⟨d, [], [[]], [[]], []⟩ = [] then _ else _ : LSt).heads = _
  rw [if_neg hne]; rfl
end Ask
/-! A word told to a learner: a list that stays, or one that is owned. -/
namespace Ask
open PySem L2
def WordAt (x : Dt) (w : Wd) (Mw : Ms) : Prop := (x = dInts w ∧ Mw = []) ∨ ∃ p, x = .ref p ∧ Mw = [.one p (.lst (w.map Dt.int))]
def fnLnW (CL CB : Addr) (R : LSt → Wd → Bool → Except Addr (Dt × LSt) → Prop) : FT := fun ds M Φ Ξ => ∃ L b n h t st x w lit Mw r, ds = [.ref L, x, .bl lit] ∧ M = lrnM CL CB L b n h t st ++ Mw ∧ WordAt x w Mw ∧ R st w lit r ∧ (∀ d st', r = .ok (d, st') → Φ d (lrnM CL CB L b n h t st' ++ Mw)) ∧ ∀ X, r = .error X → Ξ X (lrnM CL CB L b n h t st ++ Mw)
section
variable {K : PySem.W.Frag} {B : Fr} {s : Sl} {M M' : Ms} {Φ : Dt → Ms → Prop} {te : TE} {t : TA} {n : Nat} {ds : List Dt} {W : WX} {Ξ : Addr → Sl → Ms → Prop} {CL CB X : Addr} {m : Str} {R : LSt → Wd → Bool → Except Addr (Dt × LSt) → Prop}
def CallLnW (M : Ms) (CL CB : Addr) (R : LSt → Wd → Bool → Except Addr (Dt × LSt) → Prop) (ds : List Dt) (A : Dt → Ms → Prop) (E : Addr → Prop) : Prop :=
  ∃ L b nn h t st x w lit Mw r, ds = [.ref L, x, .bl lit] ∧ (∃ Mr, M.Perm ((lrnM CL CB L b nn h t st ++ Mw) ++ Mr)) ∧ WordAt x w Mw ∧ R st w lit r ∧ (∀ d st', r = .ok (d, st') → ∃ M', (∀ Mr, M.Perm ((lrnM CL CB L b nn h t st ++ Mw) ++ Mr) → M'.Perm ((lrnM CL CB L b nn h t st' ++ Mw) ++ Mr)) ∧ A d M') ∧ ∀ X, r = .error X → E X
theorem call_lnw [z : XOkC K B W Ξ] {M2 : Ms} (c : CallLnW M2 CL CB R ds Φ fun X => Ξ X s M2) {G H : Hp} {σ : L2.St} {vs : List V} {Q : VK} (L2 : Lay K B G M2 H) (S : Slots K G σ s) (rp : RepAll K G vs ds)
    (q : ∀ v d M' G' H', Lay K B G' M' H' → Ex G G' → Rep K G' v d → Φ d M' → Q v H') : spG K 3 (fnLnW CL CB R) vs H Q (fun cls d H => W cls d σ H) := by
  obtain ⟨L, b, nn, h, t, st, x, w, lit, Mw, r, rfl, ⟨Mr, hp⟩, hx, hr, k1, k2⟩ := c
  refine call_core (n := 3) (F := fnLnW CL CB R) (ds := [.ref L, x, .bl lit]) (Ma := lrnM CL CB L b nn h t st ++ Mw) (Mr := Mr) (Φ := fun d M3 => ∃ st', r = .ok (d, st') ∧ M3 = (lrnM CL CB L b nn h t st' ++ Mw) ++ Mr) (Ξc := fun X s3 M3 => s3 = s ∧ r = .error X ∧ M3 = (lrnM CL CB L b nn h t st ++ Mw) ++ Mr)
    (fun X s3 M3 G3 H3 σ3 L3 S3 k => ?_) rfl hp ⟨L, b, nn, h, t, st, x, w, lit, Mw, r, rfl, rfl, hx, hr, fun d m' e => ⟨m', e, rfl⟩, fun X e => ⟨rfl, e, rfl⟩⟩ L2 S rp fun v3 d M3 G3 H3 L3 e3 r3 k => ?_
  · obtain ⟨rfl, e, rfl⟩ := k
    exact z.h X s3 M2 G3 H3 σ3 (L3.perm hp.symm) S3 (k2 X e)
  · obtain ⟨st', e, rfl⟩ := k
    obtain ⟨M4, u, ha⟩ := k1 d st' e
    exact q v3 d M4 G3 H3 (L3.perm (u Mr hp).symm) e3 r3 ha
instance (priority := high) s_methLnW [z : XOkC K B W Ξ] : Stp (EvW K B (tMethS CL m (spG K 3 (fnLnW CL CB R)) (WE W) te t) s M Φ) (EvW K B te s M fun o M1 => LrnAt M1 CL m o (EvA K B t s M1 fun as M2 => CallLnW M2 CL CB R (o :: as) Φ fun X => Ξ X s M2)) := ⟨fun h => fun G H σ Q L S q =>
  h G H σ _ L S fun v o M1 G1 H1 L1 e1 r1 h1 => by
    obtain ⟨a, b, hh, t, d, w, rfl, hb, hm, h1⟩ := h1
    obtain ⟨dx, ws, ea, l, _⟩ := L1.ats _ hb
    exact ⟨a, dx, _, r1.refOf, ea, lookF_none hm, h1 G1 H1 σ _ L1 (S.mono e1) fun vs as M2 G2 H2 L2 e2 rs c => call_lnw c L2 (S.mono (e1.trans e2)) (.cons (r1.mono e2) rs) fun v3 d M3 G3 H3 L3 e3 => q v3 d M3 G3 H3 L3 ((e1.trans e2).trans e3)⟩⟩
class FnW (R : LSt → Wd → Bool → Except Addr (Dt × LSt) → Prop) (st : LSt) (w : Wd) (lit : Bool) (pre : outParam Prop) (r : outParam (Except Addr (Dt × LSt))) : Prop where h : pre → R st w lit r
section
variable {L b nn h t p : Addr} {d : Int} {notes : Notes} {heads tails waiting : List (List Int)} {w : Wd} {lit : Bool} {A : Dt → Ms → Prop} {E : Addr → Prop} {pre : Prop} {r : Except Addr (Dt × LSt)} {M0 M1 M2 M3 M4 M5 : Ms}
theorem resln_w {Mw : Ms} {st : LSt} (k : ResLn M L b nn h t CL CB st r A E) : (∀ d st', r = .ok (d, st') → ∃ M', (∀ Mr, M.Perm ((lrnM CL CB L b nn h t st ++ Mw) ++ Mr) → M'.Perm ((lrnM CL CB L b nn h t st' ++ Mw) ++ Mr)) ∧ A d M') ∧ ∀ X, r = .error X → E X := ⟨fun d st' e => by
  obtain ⟨M', u, ha⟩ := k.1 d st' e
  exact ⟨M', fun Mr hp => by rw [List.append_assoc] at hp ⊢; exact u _ hp, ha⟩, k.2⟩
instance s_lnW0 [c1 : TakeC M L (lrnI CL b h t d waiting) M1] [c2 : TakeC M1 b (bookI CB nn d) M2] [c3 : TakeC M2 nn (bookD notes) M3] [c4 : TakeC M3 h (.lst (heads.map dInts)) M4] [c5 : TakeC M4 t (.lst (tails.map dInts)) M5] [f : FnW R ⟨d, notes, heads, tails, waiting⟩ w lit pre r] :
    Stp (CallLnW M CL CB R [.ref L, .lst (w.map Dt.int), .bl lit] A E) (Pre pre (ResLn M L b nn h t CL CB ⟨d, notes, heads, tails, waiting⟩ r A E)) := ⟨fun k => by
  obtain ⟨k1, k2⟩ := resln_w (Mw := []) k.2
  exact ⟨L, b, nn, h, t, ⟨d, notes, heads, tails, waiting⟩, _, w, lit, [], r, rfl, ⟨M5, c1.h.trans ((c2.h.trans ((c3.h.trans ((c4.h.trans (c5.h.cons _)).cons _)).cons _)).cons _)⟩, .inl ⟨rfl, rfl⟩, f.h k.1, k1, k2⟩⟩
instance s_lnW1 [c0 : TakeC M p (.lst (w.map Dt.int)) M0] [c1 : TakeC M0 L (lrnI CL b h t d waiting) M1] [c2 : TakeC M1 b (bookI CB nn d) M2] [c3 : TakeC M2 nn (bookD notes) M3] [c4 : TakeC M3 h (.lst (heads.map dInts)) M4] [c5 : TakeC M4 t (.lst (tails.map dInts)) M5] [f : FnW R ⟨d, notes, heads, tails, waiting⟩ w lit pre r] :
    Stp (CallLnW M CL CB R [.ref L, .ref p, .bl lit] A E) (Pre pre (ResLn M L b nn h t CL CB ⟨d, notes, heads, tails, waiting⟩ r A E)) := ⟨fun k => by
  obtain ⟨k1, k2⟩ := resln_w (Mw := [.one p (.lst (w.map Dt.int))]) k.2
  exact ⟨L, b, nn, h, t, ⟨d, notes, heads, tails, waiting⟩, _, w, lit, _, r, rfl, ⟨M5, c0.h.trans (((c1.h.trans ((c2.h.trans ((c3.h.trans ((c4.h.trans (c5.h.cons _)).cons _)).cons _)).cons _)).cons _).trans (List.perm_middle (l₁ := [_, _, _, _, _])).symm)⟩, .inr ⟨p, rfl, rfl⟩, f.h k.1, k1, k2⟩⟩
end
theorem enterLnW {vs : List V} {H : Hp} {Q : VK} {E : XK} {ts : TS} {N : List Str} (h : spG K 3 (fnLnW CL CB R) vs H Q E)
    (k : ∀ (B : Fr) (L b nn h t : Addr) (st : LSt) (x : Dt) (w : Wd) (lit : Bool) (Mw : Ms) (r : Except Addr (Dt × LSt)), WordAt x w Mw → R st w lit r → XOkC K B (WF E) (fun X _ M => r = .error X ∧ ∃ Mr, M.Perm ((lrnM CL CB L b nn h t st ++ Mw) ++ Mr)) →
      WPs K B ts { nx := fun _ M => ∃ st', r = .ok (.non, st') ∧ ∃ Mr, M.Perm ((lrnM CL CB L b nn h t st' ++ Mw) ++ Mr), rt := fun d M => ∃ st', r = .ok (d, st') ∧ ∃ Mr, M.Perm ((lrnM CL CB L b nn h t st' ++ Mw) ++ Mr) } (startD N.length [.ref L, x, .bl lit]) (lrnM CL CB L b nn h t st ++ Mw)) :
    ts { nx := fun _ H' => Q .non H', rt := Q } (L2.start N vs) H := by
  obtain ⟨hl, G, M, ds, Φ, Ξ, Ly, rp, ⟨L, b, nn, hh, t, st, x, w, lit, Mw, r, rfl, rfl, hx, hr, k1, k2⟩, kQ, kE⟩ := h
  refine k ⟨G, H, fpM (lrnM CL CB L b nn hh t st ++ Mw)⟩ L b nn hh t st x w lit Mw r hx hr ⟨fun X s M' G' H' σ L' _ z => ?_⟩ _ G H _ ⟨fun s M' G' H' σ z L' _ _ => ?_, fun v d M' G' H' z L' _ r' => ?_, fun _ _ _ _ _ x => x.elim, fun _ _ _ _ _ x => x.elim⟩ Ly (slots_start rp)
  · obtain ⟨z, Mr, hp⟩ := z; exact kE X _ G' H' ((L'.perm hp).forgetsT fun a h => h) (k2 X z)
  · obtain ⟨m', z, Mr, hp⟩ := z
    exact kQ .non .non _ G' H' ((L'.perm hp).forgetsT fun a h => by rw [fpM_app] at h ⊢; exact h) .non (k1 _ _ z)
  · obtain ⟨m', z, Mr, hp⟩ := z
    exact kQ v d _ G' H' ((L'.perm hp).forgetsT fun a h => by rw [fpM_app] at h ⊢; exact h) r' (k1 _ _ z)
end
end Ask
/-! A guess says what was said; a word against it makes more heads. -/
namespace Ask
/-- two heads are told apart by what was said -/
def ParT (notes : Notes) (tails : List Wd) (g h : Wd) : Prop := ∃ t ∈ tails, ∃ b, lk notes (g ++ t) = some b ∧ lk notes (h ++ t) = some (!b)
theorem ParT.sym {notes : Notes} {tails : List Wd} {g h : Wd} (p : ParT notes tails g h) : ParT notes tails h g := by
  obtain ⟨t, ht, b, h1, h2⟩ := p
  exact ⟨t, ht, !b, h2, by rw [h1, Bool.not_not]⟩
theorem ParT.ne {notes : Notes} {tails : List Wd} {g h : Wd} (p : ParT notes tails g h) : g ≠ h := by
  rintro rfl
  obtain ⟨t, ht, b, h1, h2⟩ := p
  rw [h1] at h2
  cases b <;> cases h2
/-- what was said is kept -/
def Keep (n n' : Notes) : Prop := ∀ w b, lk n w = some b → lk n' w = some b
theorem Keep.refl {n : Notes} : Keep n n := fun _ _ h => h
theorem Keep.app {n m : Notes} : Keep n (n ++ m) := fun w b h => by rw [lk_app, h]; rfl
theorem ParT.mono {n n' : Notes} {ts ts' : List Wd} {g h : Wd} (p : ParT n ts g h) (k : Keep n n') (s : ∀ t ∈ ts, t ∈ ts') : ParT n' ts' g h := by
  obtain ⟨t, ht, b, h1, h2⟩ := p
  exact ⟨t, s t ht, b, k _ _ h1, k _ _ h2⟩
structure LRich (st : LSt) : Prop where
  h0 : st.heads[0]? = some []
  hp : ∀ h ∈ st.heads, h = [] ∨ ∃ g ∈ st.heads, h ∈ edgesOf st.d g
  ts : ∀ t ∈ st.tails, t.drop 1 ∈ st.tails
  df : st.heads.Pairwise (ParT st.notes st.tails)
  nt : ∀ w, lk st.notes w ≠ none → ∃ h ∈ st.heads, ∃ l ∈ linesOf st.d h, ∃ t ∈ st.tails, w = l ++ t
theorem rich_init {d : Int} {ws : List Wd} : LRich ⟨d, [], [[]], [[]], ws⟩ := ⟨rfl, fun h hh => .inl (List.mem_singleton.mp hh), fun t ht => by rw [List.mem_singleton.mp ht]; simp, List.pairwise_singleton _ _, fun w h => absurd rfl h⟩
theorem LRich.wait {st : LSt} (h : LRich st) {ws : List Wd} : LRich { st with waiting := ws } := ⟨h.h0, h.hp, h.ts, h.df, h.nt⟩
theorem rows_part {st : LSt} (hs : ∀ t ∈ st.tails, ∀ l ∈ [g, e], lk st.notes (l ++ t) ≠ none) (h : rowOf st.notes st.tails g ≠ rowOf st.notes st.tails e) : ParT st.notes st.tails g e := by
  have : ∃ t ∈ st.tails, lk st.notes (g ++ t) ≠ lk st.notes (e ++ t) := by
    refine Classical.byContradiction fun z => h (List.map_congr_left fun t ht => ?_)
    exact Classical.byContradiction fun q => z ⟨t, ht, q⟩
  obtain ⟨t, ht, q⟩ := this
  have a1 := hs t ht g (by simp)
  have a2 := hs t ht e (by simp)
  cases e1 : lk st.notes (g ++ t) with
  | none => exact absurd e1 a1
  | some b =>
    cases e2 : lk st.notes (e ++ t) with
    | none => exact absurd e2 a2
    | some c =>
      refine ⟨t, ht, b, e1, ?_⟩
      rw [e2]
      rw [e1, e2] at q
      cases b <;> cases c <;> simp_all
theorem LRich.grow {st : LSt} (h : LRich st) (hk : LOk st) (hu : unsaidOf st = []) {e : Wd} (he : looseOf st = some e) : LRich (growH st e) := by
  obtain ⟨⟨g, hg, hw⟩, hi⟩ := loose_edge_of he
  have e1 : (growH st e).heads = st.heads ++ [e] := rfl
  refine ⟨?_, fun x hx => ?_, h.ts, ?_, fun w hw => ?_⟩
  · rw [e1, List.getElem?_append_left (by have := (List.getElem?_eq_some_iff.mp h.h0).1; omega)]; exact h.h0
  · rw [e1] at hx ⊢
    rcases List.mem_append.mp hx with q | q
    · rcases h.hp x q with z | ⟨g2, z, z2⟩
      · exact .inl z
      · exact .inr ⟨g2, List.mem_append_left _ z, z2⟩
    · rw [List.mem_singleton.mp q]; exact .inr ⟨g, List.mem_append_left _ hg, hw⟩
  · rw [e1]
    refine List.pairwise_append.mpr ⟨h.df, List.pairwise_singleton _ _, fun a ha b hb => ?_⟩
    rw [List.mem_singleton.mp hb]
    refine rows_part (st := st) (fun t ht l hl => ?_) fun z => hi (List.mem_map.mpr ⟨a, ha, z⟩)
    rcases List.mem_cons.mp hl with rfl | hl
    · exact hk.said hu ha (by simp [linesOf]) ht
    · rw [List.mem_singleton.mp hl]; exact hk.said hu hg (List.mem_cons_of_mem _ hw) ht
  · obtain ⟨g2, hg2, l, hl, t, ht, z⟩ := h.nt w hw
    exact ⟨g2, List.mem_append_left _ hg2, l, hl, t, ht, z⟩
theorem settleF_rich : ∀ {f : Nat} {st : LSt}, LRich st → LOk st → st.waiting = unsaidOf st → LRich (settleF f st)
  | 0, st, h, hk, hw => h
  | f + 1, st, h, hk, hw => by
    unfold settleF
    by_cases hz : st.waiting = []
    · rw [if_pos hz]
      cases hl : looseOf st with
      | none => exact h
      | some e => exact settleF_rich (h.grow hk (hw ▸ hz) hl) (hk.grow (hw ▸ hz) hl) rfl
    · rw [if_neg hz]; exact h
theorem LRich.settle {st : LSt} (h : LRich st) (hk : LOk st) : LRich (settleOf st) := settleF_rich (st := fillW st) h.wait hk.fill rfl
theorem rich_start {d : Int} (h1 : 1 ≤ d) (h6 : d ≤ 6) : LRich (initOf d) := rich_init.settle (init_ok h1 h6)
theorem LRich.note {st : LSt} (h : LRich st) {w : Wd} {lit : Bool} {ws : List Wd} (hw : w ∈ unsaidOf st) : LRich { st with notes := st.notes ++ [(w, lit)], waiting := ws } := by
  obtain ⟨g, hg, l, hl, t, ht, e, hn⟩ := mem_uH.mp hw
  refine ⟨h.h0, h.hp, h.ts, h.df.imp fun p => p.mono Keep.app fun t ht => ht, fun x hx => ?_⟩
  by_cases hq : lk st.notes x = none
  · have hx2 : lk (st.notes ++ [(w, lit)]) x ≠ none := hx
    rw [lk_snoc, hq] at hx2
    by_cases q : w = x
    · exact ⟨g, hg, l, hl, t, ht, q ▸ e⟩
    · rw [if_neg q] at hx2; exact absurd rfl hx2
  · exact h.nt x hq
theorem LRich.answer {st : LSt} (h : LRich st) (hi : LInv st) (hn : st.notes.length < 900) {lit : Bool} : LRich (answerOf st lit) := by
  unfold answerOf
  have hw := hi.wt
  match e : st.waiting with
  | [] => exact h
  | w :: ws =>
    have hm : w ∈ unsaidOf st := by rw [← hw, e]; exact List.mem_cons_self
    show LRich (if ws = [] then _ else _)
    by_cases hz : ws = []
    · rw [if_pos hz]; exact (h.note hm).settle (hi.ok.note hn)
    · rw [if_neg hz]; exact h.note hm
theorem lk_put {n : Notes} {w : Wd} {lit : Bool} {f : Wd × Bool → Wd × Bool} (hf : ∀ e, f e = if e.1 = w then (e.1, lit) else e) {x : Wd} : lk (n.map f) x = if x = w then (lk n w).map fun _ => lit else lk n x := by
  induction n with
  | nil => simp [lk_nil]
  | cons e l ih =>
    rw [List.map_cons, lk_cons, ih, hf]
    by_cases h1 : e.1 = w
    · rw [if_pos h1]
      by_cases h2 : x = w
      · subst h2; simp [h1, lk_cons]
      · rw [if_neg h2, if_neg h2, if_neg (by rw [h1]; exact Ne.symm h2), lk_cons, if_neg (by rw [h1]; exact Ne.symm h2)]
    · rw [if_neg h1]
      by_cases h2 : x = w
      · rw [if_pos h2, if_pos h2, if_neg (by rw [h2]; exact h1), lk_cons, if_neg h1]
      · rw [if_neg h2, if_neg h2, lk_cons]
theorem lk_ins {n : Notes} {w : Wd} {lit : Bool} {x : Wd} : lk (ins n w lit) x = if x = w then some lit else lk n x := by
  cases e : lk n w with
  | none =>
    rw [ins_new e, lk_snoc]
    by_cases q : x = w
    · rw [if_pos q, q, e, if_pos rfl]; rfl
    · rw [if_neg q, if_neg (Ne.symm q)]; cases lk n x <;> rfl
  | some v =>
    have e2 : (getK n w).isSome = true := by have : getK n w = some v := e; rw [this]; rfl
    unfold ins putKD
    rw [if_pos e2]
    rw [lk_put (w := w) (lit := lit) (fun e => by try rfl), e]; rfl
theorem ins_keep {n : Notes} {w : Wd} {lit : Bool} (h : lk n w ≠ some (!lit)) : Keep n (ins n w lit) := fun x b hx => by
  rw [lk_ins]
  by_cases q : x = w
  · rw [if_pos q]; subst q
    rw [hx] at h
    cases b <;> cases lit <;> simp_all
  · rw [if_neg q]; exact hx
theorem drop_ends {tails : List Wd} (h0 : [] ∈ tails) {w : Wd} : ∀ j, w.drop j ∈ endsOf tails w := by
  have key : ∀ k, k ≤ w.length → ∀ i, i < k → w.drop (w.length - 1 - i) ∈ endsK tails w k := by
    intro k
    induction k with
    | zero => intro _ i hi; omega
    | succ k ih =>
      intro hk i hi
      rw [endsK_succ]
      by_cases q : i = k
      · subst q
        unfold pushT
        split
        · assumption
        · simp
      · have := ih (by omega) i (by omega)
        unfold pushT
        split
        · exact this
        · exact List.mem_append_left _ this
  intro j
  by_cases hj : j < w.length
  · have := key w.length (Nat.le_refl _) (w.length - 1 - j) (by omega)
    rw [show w.length - 1 - (w.length - 1 - j) = j by omega] at this
    exact this
  · rw [List.drop_eq_nil_of_le (by omega)]
    exact endsK_sub h0
theorem LRich.told {st : LSt} (h : LRich st) (hk : LOk st) {w : Wd} {lit : Bool} (hn : lk st.notes w ≠ some (!lit)) {ws : List Wd} : LRich { st with notes := ins st.notes w lit, tails := endsOf st.tails w, waiting := ws } := by
  refine ⟨h.h0, h.hp, fun t ht => ?_, h.df.imp fun p => p.mono (ins_keep hn) fun t ht => endsK_sub ht, fun x hx => ?_⟩
  · rcases endsK_mem (k := w.length) ht with q | ⟨j, rfl⟩
    · exact endsK_sub (h.ts t q)
    · rw [List.drop_drop]; exact drop_ends hk.t0 _
  · have hx2 : lk (ins st.notes w lit) x ≠ none := hx
    rw [lk_ins] at hx2
    by_cases q : x = w
    · refine ⟨[], List.mem_of_getElem? h.h0, [], by simp [linesOf], w, ?_, q⟩
      have := drop_ends hk.t0 (w := w) 0
      rwa [List.drop_zero] at this
    · rw [if_neg q] at hx2
      obtain ⟨g, hg, l, hl, t, ht, e⟩ := h.nt x hx2
      exact ⟨g, hg, l, hl, t, endsK_sub ht, e⟩
theorem LRich.wrong {st : LSt} (h : LRich st) (hk : LOk st) (hn : st.notes.length < 900) {w : Wd} {lit : Bool} (hw : WordOk st.d w) (hl : w.length ≤ 1000) (ht : st.tails.length + w.length ≤ 1000) (hs : lk st.notes w ≠ some (!lit)) : LRich (wrongOf st w lit) :=
  (h.told hk hs).settle (wrong_pre hk hn hw hl ht)
section
variable {st : LSt} (hi : LInv st) (hr : LRich st) (hw : st.waiting = [])
include hi hr hw
theorem rows_nd : (rowsG st).Nodup := by
  unfold rowsG
  refine List.Pairwise.map _ (fun a b p => ?_) hr.df
  obtain ⟨t, ht, b, h1, h2⟩ := p
  intro z
  have := List.map_inj_left.mp z t ht
  rw [h1, h2] at this
  cases b <;> cases this
theorem ix_head {i : Nat} {h : Wd} (hh : st.heads[i]? = some h) : ixO (rowsG st) (rowOf st.notes st.tails h) = i := by
  have hm : rowOf st.notes st.tails h ∈ rowsG st := List.mem_map.mpr ⟨h, List.mem_of_getElem? hh, rfl⟩
  have h1 := ixO_get hm
  have h2 : (rowsG st)[i]? = some (rowOf st.notes st.tails h) := by unfold rowsG; rw [List.getElem?_map, hh]; rfl
  exact List.getElem?_inj (List.getElem?_eq_some_iff.mp h1).1 (rows_nd hi hr hw) |>.mp (h1.trans h2.symm)
/-- one step of the guess -/
theorem guess_step {i : Nat} {h : Wd} (hh : st.heads[i]? = some h) {d : Int} (hd : 0 ≤ d ∧ d < st.d) : ∃ (j : Nat) (g : Wd), st.heads[j]? = some g ∧ stepOf (guessW st) i d = (j : Int) ∧ rowOf st.notes st.tails g = rowOf st.notes st.tails (h ++ [d]) := by
  have he : h ++ [d] ∈ edgesOf st.d h := List.mem_map.mpr ⟨d.toNat, List.mem_range.mpr (by omega), by rw [Int.toNat_of_nonneg hd.1]⟩
  have hm := edge_row (hi.lo hw) (List.mem_of_getElem? hh) he
  have h1 := ixO_get hm
  have h2 := h1
  unfold rowsG at h2
  rw [List.getElem?_map] at h2
  obtain ⟨g, hg, e⟩ := Option.map_eq_some_iff.mp h2
  refine ⟨ixO (rowsG st) (rowOf st.notes st.tails (h ++ [d])), g, hg, ?_, e⟩
  unfold stepOf
  rw [gt_nat (show (guessW st)[i]? = some _ by unfold guessW; rw [List.getElem?_map, hh]; rfl)]
  have e2 : ((edgesOf st.d h).map fun e => (ixO (rowsG st) (rowOf st.notes st.tails e) : Int))[d.toNat]? = some (ixO (rowsG st) (rowOf st.notes st.tails (h ++ [d])) : Int) := by
    unfold edgesOf
    rw [List.getElem?_map, List.getElem?_map, List.getElem?_range (by omega)]
    simp only [Option.map_some, Int.toNat_of_nonneg hd.1]
  have := gt_nat e2
  rwa [Int.toNat_of_nonneg hd.1] at this
theorem guess_walk : ∀ {n i : Nat} {h : Wd}, h.length = n → st.heads[i]? = some h → walkOf (guessW st) 0 h = (i : Int) := by
  intro n
  induction n with
  | zero =>
    intro i h hn hh
    obtain rfl := List.length_eq_zero_iff.mp hn
    have := List.getElem?_inj (List.getElem?_eq_some_iff.mp hh).1 hi.ok.hn |>.mp (hh.trans hr.h0.symm)
    rw [this]; rfl
  | succ n ih =>
    intro i h hn hh
    rcases hr.hp h (List.mem_of_getElem? hh) with rfl | ⟨g, hg, he⟩
    · cases hn
    · obtain ⟨k, hk, rfl⟩ := List.mem_map.mp he
      have hk := List.mem_range.mp hk
      obtain ⟨j, hj⟩ := List.getElem?_of_mem hg
      have h1 := ih (i := j) (by simpa using hn) hj
      rw [walkOf_snoc, h1]
      obtain ⟨j2, g2, a1, a2, a3⟩ := guess_step hi hr hw hj (d := (k : Int)) (by have := hi.ok.d1; omega)
      rw [a2]
      have b1 := ix_head hi hr hw a1
      rw [a3, ix_head hi hr hw hh] at b1
      rw [b1]
theorem guess_tail : ∀ {t : Wd} {i : Nat} {h : Wd}, t ∈ st.tails → st.heads[i]? = some h → litOf (guessW st) (guessL st) i t = (lk st.notes (h ++ t)).getD false
  | [], i, h, ht, hh => by
    rw [List.append_nil]
    show gt (guessL st) (i : Int) = _
    exact gt_nat (by unfold guessL; rw [List.getElem?_map, hh]; rfl)
  | d :: t, i, h, ht, hh => by
    have hd := (hi.ok.tw _ ht).1 d List.mem_cons_self
    obtain ⟨j, g, a1, a2, a3⟩ := guess_step hi hr hw hh hd
    have ht2 : t ∈ st.tails := hr.ts _ ht
    have ih := guess_tail ht2 a1
    have e := List.map_inj_left.mp a3 t ht2
    show gt (guessL st) (walkOf (guessW st) (stepOf (guessW st) i d) t) = _
    rw [a2]
    rw [show gt (guessL st) (walkOf (guessW st) j t) = litOf (guessW st) (guessL st) j t from rfl, ih, e]
    simp
/-- the guess says of every word what was said of it -/
theorem guess_says {w : Wd} {b : Bool} (hb : lk st.notes w = some b) : litOf (guessW st) (guessL st) 0 w = b := by
  obtain ⟨h, hh, l, hl, t, ht, rfl⟩ := hr.nt w (by rw [hb]; simp)
  obtain ⟨i, hi2⟩ := List.getElem?_of_mem hh
  have e1 : ∀ x, litOf (guessW st) (guessL st) 0 (x ++ t) = litOf (guessW st) (guessL st) (walkOf (guessW st) 0 x) t := fun x => by unfold litOf; rw [walk_app]
  rw [e1]
  rcases List.mem_cons.mp hl with rfl | hl
  · rw [guess_walk hi hr hw rfl hi2, guess_tail hi hr hw ht hi2, hb]; rfl
  · obtain ⟨k, hk, rfl⟩ := List.mem_map.mp hl
    have hk := List.mem_range.mp hk
    rw [walkOf_snoc, guess_walk hi hr hw rfl hi2]
    obtain ⟨j, g, a1, a2, a3⟩ := guess_step hi hr hw hi2 (d := (k : Int)) (by have := hi.ok.d1; omega)
    rw [a2, guess_tail hi hr hw ht a1, List.map_inj_left.mp a3 t ht, hb]; rfl
end
/-- what comes behind a state -/
structure Later (a b : LSt) : Prop where
  d : b.d = a.d
  h : a.heads <+: b.heads
  t : ∀ t ∈ a.tails, t ∈ b.tails
  n : Keep a.notes b.notes
theorem Later.refl {a : LSt} : Later a a := ⟨rfl, List.prefix_refl _, fun _ h => h, Keep.refl⟩
theorem Later.trans {a b c : LSt} (x : Later a b) (y : Later b c) : Later a c := ⟨y.d.trans x.d, x.h.trans y.h, fun t h => y.t t (x.t t h), fun w v h => y.n w v (x.n w v h)⟩
theorem later_answer {st : LSt} {w : Wd} {ws : List Wd} {lit : Bool} (hi : LInv st) (hn : st.notes.length < 900) (hw : st.waiting = w :: ws) : Later st (answerOf st lit) := by
  obtain ⟨a1, a2, a3, a4, a5⟩ := answer_ok hi hn hw (lit := lit)
  exact ⟨a4, a5, fun t h => by rw [a3]; exact h, fun x b h => by rw [a2]; exact Keep.app x b h⟩
theorem wrong_ok {st : LSt} {w : Wd} {lit : Bool} (h : LOk st) (hn : st.notes.length < 900) (hw : WordOk st.d w) (hl : w.length ≤ 1000) (ht : st.tails.length + w.length ≤ 1000) : LInv (wrongOf st w lit) ∧ (wrongOf st w lit).d = st.d ∧ (wrongOf st w lit).notes = ins st.notes w lit ∧ (wrongOf st w lit).tails = endsOf st.tails w ∧ st.heads <+: (wrongOf st w lit).heads := by
  obtain ⟨a, b⟩ := settle_ok (wrong_pre h hn hw hl ht (lit := lit) (wt := []))
  exact ⟨a, b.d, b.n, b.t, b.h⟩
theorem later_wrong {st : LSt} {w : Wd} {lit : Bool} (h : LOk st) (hn : st.notes.length < 900) (hw : WordOk st.d w) (hl : w.length ≤ 1000) (ht : st.tails.length + w.length ≤ 1000) (hs : lk st.notes w ≠ some (!lit)) : Later st (wrongOf st w lit) := by
  obtain ⟨a, b1, b2, b3, b4⟩ := wrong_ok (lit := lit) h hn hw hl ht
  exact ⟨b1, b4, fun t q => by rw [b3]; exact endsK_sub q, fun x b q => by rw [b2]; exact ins_keep hs x b q⟩
/-- a word against a guess makes the next guess greater -/
theorem guess_grows {st st' : LSt} (hi : LInv st) (hr : LRich st) (hw : st.waiting = []) (hi' : LInv st') (hr' : LRich st') (hw' : st'.waiting = []) (l : Later st st') {w : Wd} {lit : Bool} (h1 : lk st'.notes w = some lit) (h2 : litOf (guessW st) (guessL st) 0 w ≠ lit) : st.heads.length < st'.heads.length := by
  refine Classical.byContradiction fun z => h2 ?_
  have eh : st.heads = st'.heads := l.h.eq_of_length_le (by omega)
  have said : ∀ g ∈ st.heads, ∀ x ∈ linesOf st.d g, ∀ t ∈ st.tails, lk st'.notes (x ++ t) = lk st.notes (x ++ t) := fun g hg x hx t ht => by
    have := hi.ok.said (hw ▸ hi.wt).symm hg hx ht
    cases e : lk st.notes (x ++ t) with
    | none => exact absurd e this
    | some b => exact l.n _ _ e
  have eW : guessW st' = guessW st := by
    unfold guessW
    rw [← eh, l.d]
    refine List.map_congr_left fun g hg => List.map_congr_left fun e he => ?_
    have hm := edge_row (hi'.lo hw') (eh ▸ hg) (l.d.symm ▸ he)
    have q1 := ixO_get hm
    have q2 := q1
    unfold rowsG at q2
    rw [List.getElem?_map] at q2
    obtain ⟨g2, hg2, e2⟩ := Option.map_eq_some_iff.mp q2
    rw [← eh] at hg2
    have e3 : rowOf st.notes st.tails g2 = rowOf st.notes st.tails e := List.map_congr_left fun t ht => by
      rw [← said g2 (List.mem_of_getElem? hg2) g2 (by simp [linesOf]) t ht, ← said g hg e (List.mem_cons_of_mem _ he) t ht]
      exact List.map_inj_left.mp e2 t (l.t t ht)
    have q3 := ix_head hi hr hw hg2
    rw [e3] at q3
    rw [q3]; unfold rowsG; rw [← eh]
  have eL : guessL st' = guessL st := by
    unfold guessL
    rw [← eh]
    refine List.map_congr_left fun g hg => ?_
    have := said g hg g (by simp [linesOf]) [] hi.ok.t0
    rw [List.append_nil] at this
    rw [this]
  rw [← eW, ← eL]
  exact guess_says hi' hr' hw' h1
end Ask
/-! Odds and ends for learners. -/
namespace Ask
open PySem L2
instance (priority := high) s_ix_lastA {es : List Dt} {d : Dt} {Ψ : Dt → Prop} : Stp (Ix (es ++ [d]) (-1) Ψ) (Ψ d) := ⟨fun k => ⟨d, at_neg1 (by simp) (by simp), k⟩⟩
abbrev noteR (e : List Int × Bool) : Dt := .lst [dInts e.1, .bl e.2]
/-- what guesses have at the least -/
def Grow (st : LSt) (n : Int) : Prop := ∀ st', LInv st' → LRich st' → st'.waiting = [] → Later st st' → n ≤ st'.heads.length
theorem Grow.later {st st' : LSt} {n : Int} (h : Grow st n) (l : Later st st') : Grow st' n := fun s2 a b c d => h s2 a b c (l.trans d)
theorem grow_one {st : LSt} : Grow st 1 := fun st' hi hr hw l => by
  have := (List.getElem?_eq_some_iff.mp hr.h0).1
  omega
theorem grow_wrong {st : LSt} {w : Wd} {lit : Bool} (hi : LInv st) (hr : LRich st) (hz : st.waiting = []) (hn : st.notes.length < 900) (hw : WordOk st.d w) (hl : w.length ≤ 1000) (ht : st.tails.length + w.length ≤ 1000) (hs : lk st.notes w ≠ some (!lit)) (hg : litOf (guessW st) (guessL st) 0 w ≠ lit) : Grow (wrongOf st w lit) ((st.heads.length : Nat) + 1 : Int) := fun st' hi' hr' hw' l => by
  have hk : lk st'.notes w = some lit := l.n _ _ (by rw [(wrong_ok (lit := lit) hi.ok hn hw hl ht).2.2.1, lk_ins, if_pos rfl])
  have := guess_grows hi hr hz hi' hr' hw' ((later_wrong hi.ok hn hw hl ht hs).trans l) hk hg
  omega
theorem lk_mem_none {m : Notes} {w : Wd} (h : w ∉ m.map Prod.fst) : lk m w = none := by
  cases e : lk m w with
  | none => rfl
  | some v => exact absurd (List.mem_map.mpr ⟨_, lk_some_mem e, rfl⟩) h
theorem lk_nd {st : LSt} {e : Wd × Bool} (hn : (st.notes.map Prod.fst).Nodup) (h : e ∈ st.notes) : lk st.notes e.1 = some e.2 := lk_of_mem hn h
theorem rich_word {st : LSt} {w : Wd} (hr : LRich st) (h : LOk st) (hw : lk st.notes w ≠ none) : WordOk st.d w := by
  obtain ⟨g, hg, l, hl, t, ht, rfl⟩ := hr.nt w hw
  exact (h.cand hg hl ht).1
end Ask
/-! What a learner hands back, as values. -/
namespace Ask
open PySem L2
def tFrz (t : TE) : TE := t
theorem pe_frz {X : Cx} {e : Expr} {t : TE} (h : PE X e t) : PE X e (tFrz t) := h
abbrev noteT (e : List Int × Bool) : Dt := .tup [dInts e.1, .bl e.2]
section
variable {K : PySem.W.Frag} {B : Fr} {s : Sl} {M M' : Ms} {Φ : Dt → Ms → Prop} {te : TE} {t : TA} {n : Nat} {ds : List Dt} {W : WX} {CL CB : Addr} {m : Str}
theorem said_vals {G : Hp} : ∀ {qs : List Addr} {ms : Notes} {vs : List V}, RepAll K G vs (saidL qs ms) → RepAll K G (qs.map V.ref) ((ms.map fun e => e.1.map Dt.int).map Dt.lst) → RepAll K G vs (ms.map noteT)
  | [], [], _, .nil, _ => .nil
  | [], _ :: _, _, _, k => by cases k
  | _ :: _, [], _, _, k => by cases k
  | q :: qs, e :: ms, _, .cons r rs, .cons k ks => by
    obtain ⟨a, vs, rfl, h, t⟩ := r.tupOf
    refine .cons (.tup h ?_) (said_vals rs ks)
    cases t with
    | cons t1 t2 =>
      have := t1.refOf
      subst this
      exact .cons k t2
def FQ (B : Fr) (Φ : Dt → Ms → Prop) (d : Dt) (M : Ms) : Prop := (d = .non ∧ Φ .non M) ∨ ∃ (w : List Int) (p : Addr) (M3 : Ms), p ∉ B.T ∧ d = .ref p ∧ M = .one p (.lst (w.map Dt.int)) :: M3 ∧ Φ (dInts w) M3
theorem e_fq (h : EvW K B te s M (FQ B Φ)) : EvW K B (tFrz te) s M Φ := fun G H σ Q L S q => h G H σ _ L S fun v d M' G' H' L' e r k => by
  rcases k with ⟨rfl, k⟩ | ⟨w, p, M3, hpT, rfl, rfl, k⟩
  · exact q v _ M' G' H' L' e r k
  · obtain ⟨G1, L1, e1, r1⟩ := freeze_lst hpT L'
    rw [r.refOf]
    exact q _ _ M3 G1 H' L1 (e.trans e1) r1 k
instance s_methQnF : Stp (EvW K B (tFrz (tMethS CL m (spG K 1 (fnLnQ CL CB)) (WE W) te tNil)) s M Φ) (EvW K B te s M fun o M1 => LrnAt M1 CL m o (AskQn M1 B CL CB o (FQ B Φ))) := ⟨fun h => e_fq (s_methQn.imp h)⟩
def FA (B : Fr) (Φ : Dt → Ms → Prop) (d : Dt) (M : Ms) : Prop := ∃ (p : Addr) (qs : List Addr) (ms : Notes) (M3 : Ms), p ∉ B.T ∧ (∀ q ∈ qs, q ∉ B.T) ∧ qs.length = ms.length ∧ d = .ref p ∧ M = .one p (.lst (saidL qs ms)) :: .many qs (ms.map fun e => e.1.map Dt.int) :: M3 ∧ Φ (.lst (ms.map noteT)) M3
theorem e_fa (h : EvW K B te s M (FA B Φ)) : EvW K B (tFrz te) s M Φ := fun G H σ Q L S q => h G H σ _ L S fun v d M' G' H' L' e r k => by
  obtain ⟨p, qs, ms, M3, hp, hq, hl, rfl, rfl, k⟩ := k
  obtain ⟨G1, L1, e1, r1⟩ := frz_block (L'.perm (List.Perm.swap _ _ _)) hq
  obtain ⟨vs, hv, tv⟩ := L1.ats _ List.mem_cons_self
  have tv2 := said_vals tv r1
  have f : G1 p = none := L1.free p (by rw [fpM_cons]; exact List.mem_cons_self)
  have e2 := Ex.new (o := HO.lst vs) f
  rw [r.refOf]
  exact q _ _ M3 _ H' (L1.freeze hp hv) (e.trans (e1.trans e2)) (.lst upd_same (tv2.mono e2)) k
instance s_allBF : Stp (EvW K B (tFrz (tMethS CB m (spG K 1 (fnBS CB)) (WE W) te tNil)) s M Φ) (EvW K B te s M fun o M1 => BookAt M1 CB m o (AllB M1 B CB o (FA B Φ))) := ⟨fun h => e_fa (s_allB.imp h)⟩
section
variable {L b nn h tt : Addr} {d : Int} {notes : Notes} {heads tails waiting : List (List Int)} {M1 M2 M3 M4 M5 : Ms} {doors : Int} {ms : Notes}
instance (priority := high) s_askQnF [c1 : TakeC M L (lrnI CL b h tt d waiting) M1] [c2 : TakeC M1 b (bookI CB nn d) M2] [c3 : TakeC M2 nn (bookD notes) M3] [c4 : TakeC M3 h (.lst (heads.map dInts)) M4] [c5 : TakeC M4 tt (.lst (tails.map dInts)) M5] :
    Stp (AskQn M B CL CB (.ref L) (FQ B Φ)) (Φ (optD dInts waiting.head?) M) := ⟨fun k => ⟨L, b, nn, h, tt, ⟨d, notes, heads, tails, waiting⟩, rfl, ⟨M5, c1.h.trans ((c2.h.trans ((c3.h.trans ((c4.h.trans (c5.h.cons _)).cons _)).cons _)).cons _)⟩,
  fun hw => .inl ⟨rfl, by rw [show waiting = [] from hw] at k; exact k⟩, fun w ws hw p hpT => .inr ⟨w, p, M, hpT, rfl, rfl, by rw [show waiting = w :: ws from hw] at k; exact k⟩⟩⟩
instance (priority := high) s_allBFi [f : FindC M b (bookI CB nn doors)] [g : FindC M nn (bookD ms)] : Stp (AllB M B CB (.ref b) (FA B Φ)) (Pre (ms.length < 16777216) (Φ (.lst (ms.map noteT)) M)) := ⟨fun k => ⟨b, nn, doors, ms, rfl, f.h, g.h, k.1, fun p qs hp hq hl => ⟨p, qs, ms, M, hp, hq, hl, rfl, rfl, k.2⟩⟩⟩
end
end
mutual
theorem alike_self : ∀ (d : Dt), isDat d = true → alike d d = true
  | .non, _ | .bl _, _ | .int _, _ | .str _, _ => by simp [alike]
  | .lst ds, h => by simp only [isDat] at h; simp only [alike]; exact alikes_self ds h
  | .tup ds, h => by simp only [isDat] at h; simp only [alike]; exact alikes_self ds h
  | .ref _, h | .ty _, h | .scr _, h | .ins _ _ _, h => by simp [isDat] at h
theorem alikes_self : ∀ (ds : List Dt), isDats ds = true → alikes ds ds = true
  | [], _ => by simp [alikes]
  | d :: ds, h => by
    have h' : isDat d = true ∧ isDats ds = true := by simpa [isDats] using h
    simp only [alikes, alike_self d h'.1, alikes_self ds h'.2, Bool.and_self]
end
section
variable {K : PySem.W.Frag} {B : Fr} {M : Ms} {Φ : Dt → Ms → Prop} {x : Dt}
theorem ne_self (h : isDat x = true) (h2 : deep x ≤ 64) (k : Φ (.bl false) M) : Op2 K B (rNeD K) x x M Φ := p_neX (.imm h) (.imm h) (alike_self x h) h h h2 h2 fun b hb => by rw [hb.mpr rfl]; exact k
end
def seenD (st : LSt) : Dt := .lst [optD dInts st.waiting.head?, dRows st.heads, dRows st.tails, .lst (st.notes.map noteT)]
theorem enc_noteT : Enc noteT 2 := enc_ints.pair enc_bl
theorem enc_oints : Enc (optD dInts) 1 := enc_ints.opt fun _ h => nomatch h
theorem seen_dat {st : LSt} : isDat (seenD st) = true ∧ deep (seenD st) ≤ 64 := by
  have h1 := enc_oints.dat st.waiting.head?
  have h2 := enc_rows.dat st.heads
  have h3 := enc_rows.dat st.tails
  have h4 := enc_noteT.lst.dat st.notes
  have d1 := enc_oints.dep st.waiting.head?
  have d2 := enc_rows.dep st.heads
  have d3 := enc_rows.dep st.tails
  have d4 := enc_noteT.lst.dep st.notes
  unfold seenD
  constructor
  · simp only [isDat, isDats, h1, Bool.and_true, Bool.true_and]
    simp only [isDat] at h2 h3 h4
    rw [h2, h3, h4]; rfl
  · simp only [deep, deeps] at *
    omega
instance s_neSeen {K : PySem.W.Frag} {B : Fr} {M : Ms} {Φ : Dt → Ms → Prop} {st : LSt} : Stp (Op2 K B (rNeD K) (seenD st) (seenD st) M Φ) (Φ (.bl false) M) := ⟨fun k => ne_self seen_dat.1 seen_dat.2 k⟩
end Ask
/-! A learner taught by a hidden house. -/
namespace Ask
/-- what was said is what a house says -/
def Told (ways : List (List Int)) (lamps : List Bool) (notes : Notes) : Prop := ∀ w b, lk notes w = some b → litOf ways lamps 0 w = b
section
variable {ways : List (List Int)} {lamps : List Bool} {d : Int} {st : LSt}
theorem told_nil : Told ways lamps [] := fun w b h => by cases h
theorem Told.app {notes : Notes} (h : Told ways lamps notes) {w : Wd} {b : Bool} (hb : litOf ways lamps 0 w = b) : Told ways lamps (notes ++ [(w, b)]) := fun x c hx => by
  rw [lk_snoc] at hx
  cases e : lk notes x with
  | some v => rw [e] at hx; exact h x c (by rw [e]; exact hx)
  | none =>
    rw [e] at hx
    by_cases q : w = x
    · rw [if_pos q] at hx
      rw [← q, hb]; exact Option.some.inj hx
    · rw [if_neg q] at hx; cases hx
theorem Told.ins {notes : Notes} (h : Told ways lamps notes) {w : Wd} {b : Bool} (hb : litOf ways lamps 0 w = b) : Told ways lamps (ins notes w b) := fun x c hx => by
  rw [lk_ins] at hx
  by_cases q : x = w
  · rw [if_pos q] at hx; rw [q, hb]; exact Option.some.inj hx
  · rw [if_neg q] at hx; exact h x c hx
/-- two heads that are told apart lead to unlike rooms -/
theorem part_rooms (hs : Told ways lamps st.notes) {g h : Wd} (p : ParT st.notes st.tails g h) : ∃ t, litOf ways lamps (walkOf ways 0 g) t ≠ litOf ways lamps (walkOf ways 0 h) t := by
  obtain ⟨t, ht, b, h1, h2⟩ := p
  have e1 := hs _ _ h1
  have e2 := hs _ _ h2
  unfold litOf at e1 e2
  rw [walk_app] at e1 e2
  refine ⟨t, ?_⟩
  unfold litOf
  rw [e1, e2]
  cases b <;> simp
theorem heads_few (hk : HouseOk d ways lamps) (hd : st.d = d) (hi : LOk st) (hr : LRich st) (hs : Told ways lamps st.notes) : st.heads.length ≤ ways.length := by
  have hn : (st.heads.map fun h => (walkOf ways 0 h).toNat).Nodup := by
    refine (List.pairwise_map).mpr ?_
    have hw : ∀ w ∈ st.heads, 0 ≤ walkOf ways 0 w := fun w h => (walk_in hk (room0 hk) (hd ▸ (hi.hw w h).1)).1
    have hall : st.heads.Pairwise fun a b => ParT st.notes st.tails a b ∧ a ∈ st.heads ∧ b ∈ st.heads := by
      have := hr.df
      exact List.Pairwise.imp_of_mem (fun ha hb p => ⟨p, ha, hb⟩) this
    refine hall.imp fun {a b} h => ?_
    intro z
    obtain ⟨t, ht⟩ := part_rooms hs h.1
    have h1 := hw a h.2.1
    have h2 := hw b h.2.2
    have : walkOf ways 0 a = walkOf ways 0 b := by omega
    exact ht (by rw [this])
  have := nodup_sub_length (m := List.range ways.length) hn fun x hx => by
    obtain ⟨w, hw, rfl⟩ := List.mem_map.mp hx
    have := walk_in hk (room0 hk) (hd ▸ (hi.hw w hw).1)
    exact List.mem_range.mpr (by omega)
  simpa using this
end
end Ask
namespace Ask
open PySem L2
structure Row20 where
  what : Int
  word : Wd
  lit : Bool
  name : Str
deriving Inhabited
abbrev rowR (e : Row20) : Dt := .lst [.int e.what, dInts e.word, .bl e.lit, .str e.name]
def DoPre (st : LSt) (what : Int) (word : Wd) (lit : Bool) : Prop :=
  LInv st ∧ st.heads.length ≤ 400 ∧ 1 ≤ st.heads.length ∧ st.notes.length < 900 ∧ word.length ≤ 1000 ∧ st.tails.length + word.length ≤ 1000 ∧
  ((what = 0 ∧ st.waiting = []) ∨ (what = 1 ∧ st.waiting ≠ []) ∨ (what = 2 ∧ (st.waiting = [] → WordOk st.d word → lk st.notes word ≠ some (!lit) → litOf (guessW st) (guessL st) 0 word = lit)) ∨ ((what = 3 ∨ what = 4) ∧ ∃ x : Int, word = [x] ∧ ¬ (1 ≤ x ∧ x ≤ 6)))
abbrev doR (NA NY BW SO NW BH : Addr) (st : LSt) (what : Int) (word : Wd) (lit : Bool) : Except Addr Dt :=
  if what = 0 then .error NA else if what = 1 then .error NY else if what = 2 then (if st.waiting = [] then (if WordOk st.d word then (if lk st.notes word = some (!lit) then .error SO else .error NW) else .error BW) else .error NY) else .error BH
def doN (st : LSt) (what : Int) (word : Wd) (lit : Bool) : Str :=
  if what = 0 then "asked" else if what = 1 then "yet" else if what = 2 then (if st.waiting = [] then (if WordOk st.d word then (if lk st.notes word = some (!lit) then "otherwise" else "wrong") else "word") else "yet") else "house"
def oddOf (d cell : Int) (word : Wd) : Wd := word.take (draw cell 2 (word.length + 1)).toNat ++ [if cell / 50 % 2 = 0 then 0 - 1 - cell % 50 else d + cell % 50] ++ word.drop (draw cell 2 (word.length + 1)).toNat
def rows20 (st : LSt) (sl : Notes) (cell : Int) : List Row20 :=
  let word := wordBy cell st.d (draw cell 1 5)
  let c := decide (cell % 2 = 1)
  if st.waiting = [] then
    let p := gt sl (cell % sl.length)
    [⟨0, [], c, "asked"⟩, ⟨2, oddOf st.d cell word, c, "word"⟩, ⟨2, p.1, !p.2, "otherwise"⟩, ⟨2, p.1, p.2, "wrong"⟩, ⟨2, word, litOf (guessW st) (guessL st) 0 word, "wrong"⟩]
  else [⟨1, [], true, "yet"⟩, ⟨2, word, c, "yet"⟩, ⟨2, oddOf st.d cell word, c, "yet"⟩]
theorem doN_ok {st : LSt} {what : Int} {word : Wd} {lit : Bool} : PyData.strOk (doN st what word lit) = true := by
  unfold doN
  repeat' split
  all_goals decide +kernel
theorem odd_not {d cell : Int} {word : Wd} (hd : 1 ≤ d) (hw : WordOk d word) : ¬ WordOk d (oddOf d cell word) := fun z => by
  have := z (if cell / 50 % 2 = 0 then 0 - 1 - cell % 50 else d + cell % 50) (by simp [oddOf])
  split at this <;> omega
theorem rows20_ok {st : LSt} {cell : Int} (hi : LInv st) (hr : LRich st) (hnd : (st.notes.map Prod.fst).Nodup) (hl : st.heads.length ≤ 400) (hn : st.notes.length < 900) (ht : st.tails.length ≤ 900) (hw : ∀ e ∈ st.notes, e.1.length ≤ 100) : ∀ e ∈ rows20 st st.notes cell, DoPre st e.what e.word e.lit ∧ doN st e.what e.word e.lit = e.name := by
  have hd1 := hi.ok.d1
  have hh1 : 1 ≤ st.heads.length := (List.getElem?_eq_some_iff.mp hr.h0).1
  have hdr := draw_in (cell := cell) (k := 1) (bound := 5) (by decide)
  have hwo := wordBy_ok (cell := cell) (size := Ask.draw cell 1 5) (show 1 ≤ st.d by omega)
  have hwl : (wordBy cell st.d (Ask.draw cell 1 5)).length ≤ 5 := by simp [wordBy]; omega
  have base : ∀ {what : Int} {word : Wd} {lit : Bool}, word.length ≤ 100 → _ → DoPre st what word lit := fun a b => ⟨hi, hl, hh1, hn, by omega, by omega, b⟩
  intro e he
  unfold rows20 at he
  dsimp only at he
  generalize wordBy cell st.d (Ask.draw cell 1 5) = word at *
  have hol : (oddOf st.d cell word).length ≤ 6 := by
    have hdi := draw_in (cell := cell) (k := 2) (bound := (word.length : Int) + 1) (by omega)
    simp [oddOf]; omega
  have hod := odd_not (cell := cell) hd1 hwo
  by_cases hz : st.waiting = []
  · rw [if_pos hz] at he
    have hs0 : 1 ≤ st.notes.length := by have := hi.ok.few (hz ▸ hi.wt).symm; omega
    have hix2 := mod_in (x := cell) (m := (st.notes.length : Int)) (by omega)
    have hm := gt_mem hix2.1 hix2.2
    generalize gt st.notes (cell % (st.notes.length : Int)) = p at *
    have hp := lk_nd hnd hm
    have hpw : WordOk st.d p.1 := rich_word hr hi.ok (by rw [hp]; simp)
    have hpl := hw p hm
    have hsay := guess_says hi hr hz hp
    simp only [List.mem_cons, List.not_mem_nil, or_false] at he
    rcases he with rfl | rfl | rfl | rfl | rfl
    · exact ⟨base (by simp) (.inl ⟨rfl, hz⟩), rfl⟩
    · exact ⟨base (by dsimp only; omega) (.inr (.inr (.inl ⟨rfl, fun _ h => absurd h hod⟩))), by simp [doN, hz, hod]⟩
    · exact ⟨base hpl (.inr (.inr (.inl ⟨rfl, fun _ _ h => absurd (by rw [hp, Bool.not_not]) h⟩))), by simp [doN, hz, hpw, hp]⟩
    · exact ⟨base hpl (.inr (.inr (.inl ⟨rfl, fun _ _ _ => hsay⟩))), by simp [doN, hz, hpw, hp]⟩
    · refine ⟨base (by dsimp only; omega) (.inr (.inr (.inl ⟨rfl, fun _ _ _ => rfl⟩))), ?_⟩
      have : lk st.notes word ≠ some (!litOf (guessW st) (guessL st) 0 word) := fun z => by
        have := guess_says hi hr hz z
        revert this
        cases litOf (guessW st) (guessL st) 0 word <;> simp
      simp [doN, hz, hwo, this]
  · rw [if_neg hz] at he
    simp only [List.mem_cons, List.not_mem_nil, or_false] at he
    rcases he with rfl | rfl | rfl
    · exact ⟨base (by simp) (.inr (.inl ⟨rfl, hz⟩)), rfl⟩
    · exact ⟨base (by dsimp only; omega) (.inr (.inr (.inl ⟨rfl, fun h => absurd h hz⟩))), by simp [doN, hz]⟩
    · exact ⟨base (by dsimp only; omega) (.inr (.inr (.inl ⟨rfl, fun h => absurd h hz⟩))), by simp [doN, hz]⟩
theorem part_some {doors : Int} {w1 w2 : List (List Int)} {l1 l2 : List Bool} {left right : Int} (k1 : HouseOk doors w1 l1) (k2 : HouseOk doors w2 l2) (hl : 0 ≤ left ∧ left < (w1.length : Int)) (hr : 0 ≤ right ∧ right < (w2.length : Int)) {w : Wd} (h : partOf w1 w2 l1 left l2 right (gt w1 0).length = some w) : WordOk doors w ∧ litOf w1 l1 left w ≠ litOf w2 l2 right w ∧ w.length ≤ w1.length * w2.length := by
  have hn := row_len k1 (room0 k1)
  have k1' : HouseOk ((gt w1 0).length : Nat) w1 l1 := hn ▸ k1
  have k2' : HouseOk ((gt w1 0).length : Nat) w2 l2 := hn ▸ k2
  have := searchP_sound k1' k2' (InvP.start hl hr) h
  rw [hn] at this
  exact this
theorem rich_len {st : LSt} {w : Wd} {k : Nat} (hr : LRich st) (h : LOk st) (ht : ∀ t ∈ st.tails, t.length ≤ k) (hw : lk st.notes w ≠ none) : w.length ≤ st.heads.length + 1 + k := by
  obtain ⟨g, hg, l, hl, t, ht2, rfl⟩ := hr.nt w hw
  have h1 := (h.hw g hg).2
  have h2 := ht t ht2
  rw [List.length_append]
  rcases List.mem_cons.mp hl with rfl | hl
  · omega
  · have := (edge_ok (h.hw g hg).1 hl).2
    omega
theorem wait_len {st : LSt} {w : Wd} {k : Nat} (h : LOk st) (ht : ∀ t ∈ st.tails, t.length ≤ k) (hw : w ∈ unsaidOf st) : w.length ≤ st.heads.length + 1 + k := by
  obtain ⟨g, hg, l, hl, t, ht2, rfl, _⟩ := mem_uH.mp hw
  have h1 := (h.hw g hg).2
  have h2 := ht t ht2
  rw [List.length_append]
  rcases List.mem_cons.mp hl with rfl | hl
  · omega
  · have := (edge_ok (h.hw g hg).1 hl).2
    omega
theorem ends_len {tails : List Wd} {w : Wd} {k : Nat} (ht : ∀ t ∈ tails, t.length ≤ k) (hw : w.length ≤ k) : ∀ t ∈ endsOf tails w, t.length ≤ k := fun t h => by
  rcases endsK_mem (k := w.length) h with q | ⟨j, rfl⟩
  · exact ht t q
  · rw [List.length_drop]; omega
end Ask
/-! Where no word parts; how many kinds of rooms there are. -/
namespace Ask
section
variable {w1 w2 : List (List Int)} {l1 l2 : List Bool} {doors : Nat} {left right : Int} {E : List PE2} {e : PE2}
theorem pushesP_mem {x : PE2} (h : x ∈ E) : ∀ n, x ∈ pushesP w1 w2 E e n
  | 0 => h
  | n + 1 => by rw [pushesP_succ]; exact pushP_sub (pushesP_mem h n)
theorem pushP_has {d : Nat} : (stepOf w1 e.2.1 d, stepOf w2 e.2.2 d) ∈ (pushP w1 w2 E e d).map (·.2) := by
  by_cases h : (stepOf w1 e.2.1 d, stepOf w2 e.2.2 d) ∈ E.map (·.2)
  · rw [pushP_old h]; exact h
  · rw [pushP_new h]; simp
theorem pushesP_has : ∀ {n d : Nat}, d < n → (stepOf w1 e.2.1 d, stepOf w2 e.2.2 d) ∈ (pushesP w1 w2 E e n).map (·.2)
  | 0, d, h => by omega
  | n + 1, d, h => by
    rw [pushesP_succ]
    by_cases q : d = n
    · rw [q]; exact pushP_has
    · obtain ⟨x, hx, hx2⟩ := List.mem_map.mp (pushesP_has (show d < n by omega))
      exact List.mem_map.mpr ⟨x, pushP_sub hx, hx2⟩
def ShutP (w1 w2 : List (List Int)) (l1 l2 : List Bool) (doors : Nat) (E : List PE2) (e : PE2) : Prop := gt l1 e.2.1 = gt l2 e.2.2 ∧ ∀ d : Nat, d < doors → (stepOf w1 e.2.1 d, stepOf w2 e.2.2 d) ∈ E.map (·.2)
theorem ShutP.mono {E E' : List PE2} (h : ShutP w1 w2 l1 l2 doors E e) (s : ∀ x ∈ E, x ∈ E') : ShutP w1 w2 l1 l2 doors E' e := ⟨h.1, fun d hd => by
  obtain ⟨x, hx, q⟩ := List.mem_map.mp (h.2 d hd)
  exact List.mem_map.mpr ⟨x, s x hx, q⟩⟩
theorem searchP_none (k1 : HouseOk doors w1 l1) (k2 : HouseOk doors w2 l2) : ∀ {f : Nat} {E : List PE2} {k : Nat}, InvP w1 w2 doors left right E → (∀ i e, i < k → E[i]? = some e → ShutP w1 w2 l1 l2 doors E e) → w1.length * w2.length + 1 ≤ f + k → k ≤ E.length → searchP w1 w2 l1 l2 doors f E k = none → ∃ E', (∀ x ∈ E, x ∈ E') ∧ ∀ e ∈ E', ShutP w1 w2 l1 l2 doors E' e
  | 0, E, k, hi, _, hf, hk, _ => by have := hi.small; omega
  | f + 1, E, k, hi, hd, hf, hk, h => by
    unfold searchP at h
    cases he : E[k]? with
    | none =>
      refine ⟨E, fun _ h => h, fun e h2 => ?_⟩
      obtain ⟨i, hi2⟩ := List.getElem?_of_mem h2
      have h3 := (List.getElem?_eq_some_iff.mp hi2).1
      have h4 := List.getElem?_eq_none_iff.mp he
      exact hd i e (by omega) hi2
    | some e =>
      rw [he] at h
      simp only at h
      split at h
      · cases h
      · rename_i heq
        obtain ⟨E', s, q⟩ := searchP_none k1 k2 (hi.pushes k1 k2 he doors (Nat.le_refl _)) (k := k + 1) (fun i x hix hx => by
          by_cases z : i = k
          · subst z
            have : x = e := Option.some.inj (hx.symm.trans (pushesP_get he doors))
            rw [this]
            exact ⟨Decidable.not_not.mp heq, fun d hdd => pushesP_has hdd⟩
          · have hxe : E[i]? = some x := by
              obtain ⟨y, hy⟩ : ∃ y, E[i]? = some y := ⟨_, List.getElem?_eq_getElem (show i < E.length by omega)⟩
              rw [hy, ← pushesP_get hy doors (w1 := w1) (w2 := w2) (e := e), hx]
            exact (hd i x (by omega) hxe).mono fun y hy => pushesP_mem hy doors) (by omega) (by have := (List.getElem?_eq_some_iff.mp (pushesP_get he doors (w1 := w1) (w2 := w2) (e := e))).1; omega) h
        exact ⟨E', fun x hx => s x (pushesP_mem hx doors), q⟩
theorem shut_all {E : List PE2} (h : ∀ e ∈ E, ShutP w1 w2 l1 l2 doors E e) : ∀ {w : Wd} {l r : Int}, (l, r) ∈ E.map (·.2) → WordOk doors w → litOf w1 l1 l w = litOf w2 l2 r w
  | [], l, r, hm, _ => by
    obtain ⟨e, he, q⟩ := List.mem_map.mp hm
    have := (h e he).1
    rw [q] at this; exact this
  | d :: w, l, r, hm, hw => by
    obtain ⟨e, he, q⟩ := List.mem_map.mp hm
    have hd := hw d List.mem_cons_self
    have := (h e he).2 d.toNat (by omega)
    rw [q, Int.toNat_of_nonneg hd.1] at this
    exact shut_all h (w := w) this fun x hx => hw x (List.mem_cons_of_mem _ hx)
end
theorem part_none {doors : Int} {w1 w2 : List (List Int)} {l1 l2 : List Bool} {left right : Int} (k1 : HouseOk doors w1 l1) (k2 : HouseOk doors w2 l2) (hl : 0 ≤ left ∧ left < (w1.length : Int)) (hr : 0 ≤ right ∧ right < (w2.length : Int)) (h : partOf w1 w2 l1 left l2 right (gt w1 0).length = none) {w : Wd} (hw : WordOk doors w) : litOf w1 l1 left w = litOf w2 l2 right w := by
  have hn := row_len k1 (room0 k1)
  have k1' : HouseOk ((gt w1 0).length : Nat) w1 l1 := hn ▸ k1
  have k2' : HouseOk ((gt w1 0).length : Nat) w2 l2 := hn ▸ k2
  obtain ⟨E, s, q⟩ := searchP_none k1' k2' (InvP.start hl hr) (fun i e hi _ => by omega) (by omega) (by simp) h
  exact shut_all q (List.mem_map.mpr ⟨_, s _ (List.mem_singleton.mpr rfl), rfl⟩) (by rw [hn]; exact hw)
/-- counting by a relation -/
theorem count_le {α β : Type} {rel : α → β → Prop} : ∀ {A : List α} {L : List β}, (∀ a ∈ A, ∃ b ∈ L, rel a b) → A.Pairwise (fun a a' => ∀ b, rel a b → rel a' b → False) → A.length ≤ L.length
  | [], L, _, _ => Nat.zero_le _
  | a :: A, L, ht, hp => by
    obtain ⟨b, hb, hr⟩ := ht a List.mem_cons_self
    obtain ⟨l1, l2, rfl⟩ := List.append_of_mem hb
    rw [List.pairwise_cons] at hp
    have := count_le (rel := rel) (A := A) (L := l1 ++ l2) (fun a' ha' => by
      obtain ⟨b', hb', hr'⟩ := ht a' (List.mem_cons_of_mem _ ha')
      rcases List.mem_append.mp hb' with q | q
      · exact ⟨b', List.mem_append_left _ q, hr'⟩
      · rcases List.mem_cons.mp q with rfl | q
        · exact (hp.1 a' ha' b' hr hr').elim
        · exact ⟨b', List.mem_append_right _ q, hr'⟩) hp.2
    simp only [List.length_cons, List.length_append] at this ⊢
    omega
/-- one of each kind of the reached rooms -/
def alikeIn (ways : List (List Int)) (lamps : List Bool) (k r : Int) : Bool := (partOf ways ways lamps k lamps r (gt ways 0).length).isNone
def keepK (ways : List (List Int)) (lamps : List Bool) (kept : List Int) (w : Wd) : List Int := if (kept.filter fun k => alikeIn ways lamps k (walkOf ways 0 w)) = [] then kept ++ [walkOf ways 0 w] else kept
def kindsOf (ways : List (List Int)) (lamps : List Bool) : List Int := (leastW ways (gt ways 0).length).foldl (keepK ways lamps) []
section
variable {ways : List (List Int)} {lamps : List Bool} {d : Int}
def Apart (ways : List (List Int)) (lamps : List Bool) (d a b : Int) : Prop := ∃ t, WordOk d t ∧ litOf ways lamps a t ≠ litOf ways lamps b t
def Alike (ways : List (List Int)) (lamps : List Bool) (d a b : Int) : Prop := ∀ t, WordOk d t → litOf ways lamps a t = litOf ways lamps b t
structure Kept (ways : List (List Int)) (lamps : List Bool) (d : Int) (ws : List Wd) (kept : List Int) : Prop where
  re : ∀ k ∈ kept, ∃ w ∈ ws, walkOf ways 0 w = k
  df : kept.Pairwise (Apart ways lamps d)
  al : ∀ w ∈ ws, ∃ k ∈ kept, Alike ways lamps d k (walkOf ways 0 w)
theorem kept_step (hk : HouseOk d ways lamps) {ws : List Wd} {kept : List Int} (hw : ∀ w ∈ ws, WordOk d w) (h : Kept ways lamps d ws kept) {w : Wd} (hw2 : WordOk d w) : Kept ways lamps d (ws ++ [w]) (keepK ways lamps kept w) := by
  have hr0 := room0 hk
  have hr := walk_in hk hr0 hw2
  have hin : ∀ k ∈ kept, 0 ≤ k ∧ k < (ways.length : Int) := fun k hk2 => by
    obtain ⟨u, hu, rfl⟩ := h.re k hk2
    exact walk_in hk hr0 (hw u hu)
  unfold keepK
  by_cases q : (kept.filter fun k => alikeIn ways lamps k (walkOf ways 0 w)) = []
  · rw [if_pos q]
    refine ⟨fun k hk2 => ?_, List.pairwise_append.mpr ⟨h.df, List.pairwise_singleton _ _, fun a ha b hb => ?_⟩, fun u hu => ?_⟩
    · rcases List.mem_append.mp hk2 with z | z
      · obtain ⟨u, hu, e⟩ := h.re k z
        exact ⟨u, List.mem_append_left _ hu, e⟩
      · exact ⟨w, by simp, (List.mem_singleton.mp z).symm⟩
    · rw [List.mem_singleton.mp hb]
      have := List.filter_eq_nil_iff.mp q a ha
      unfold alikeIn at this
      cases hp : partOf ways ways lamps a lamps (walkOf ways 0 w) (gt ways 0).length with
      | none => rw [hp] at this; exact absurd rfl this
      | some t =>
        obtain ⟨t1, t2, _⟩ := part_some hk hk (hin a ha) hr hp
        exact ⟨t, t1, t2⟩
    · rcases List.mem_append.mp hu with z | z
      · obtain ⟨k, hk2, e⟩ := h.al u z
        exact ⟨k, List.mem_append_left _ hk2, e⟩
      · rw [List.mem_singleton.mp z]
        exact ⟨walkOf ways 0 w, by simp, fun t _ => rfl⟩
  · rw [if_neg q]
    refine ⟨fun k hk2 => ?_, h.df, fun u hu => ?_⟩
    · obtain ⟨u, hu, e⟩ := h.re k hk2
      exact ⟨u, List.mem_append_left _ hu, e⟩
    · rcases List.mem_append.mp hu with z | z
      · exact h.al u z
      · rw [List.mem_singleton.mp z]
        obtain ⟨k, hk2⟩ := List.exists_mem_of_ne_nil _ q
        obtain ⟨h1, h2⟩ := List.mem_filter.mp hk2
        refine ⟨k, h1, fun t ht => part_none hk hk (hin k h1) hr ?_ ht⟩
        unfold alikeIn at h2
        cases hp : partOf ways ways lamps k lamps (walkOf ways 0 w) (gt ways 0).length with
        | none => rfl
        | some t => rw [hp] at h2; cases h2
theorem kept_fold (hk : HouseOk d ways lamps) : ∀ {l ws : List Wd} {kept : List Int}, (∀ w ∈ ws, WordOk d w) → (∀ w ∈ l, WordOk d w) → Kept ways lamps d ws kept → Kept ways lamps d (ws ++ l) (l.foldl (keepK ways lamps) kept)
  | [], ws, kept, _, _, h => by rw [List.append_nil]; exact h
  | w :: l, ws, kept, h1, h2, h => by
    have hw := h2 w List.mem_cons_self
    have := kept_fold hk (l := l) (ws := ws ++ [w]) (kept := keepK ways lamps kept w) (fun x hx => by
      rcases List.mem_append.mp hx with z | z
      · exact h1 x z
      · rw [List.mem_singleton.mp z]; exact hw) (fun x hx => h2 x (List.mem_cons_of_mem _ hx)) (kept_step hk h1 h hw)
    rw [List.append_assoc] at this
    exact this
theorem least_cover (hk : HouseOk d ways lamps) : ∀ {v : Wd}, WordOk d v → ∃ w ∈ leastW ways (gt ways 0).length, walkOf ways 0 w = walkOf ways 0 v := by
  have hn := row_len hk (room0 hk)
  have k' : HouseOk ((gt ways 0).length : Nat) ways lamps := hn ▸ hk
  have L := leastW_ok k'
  suffices ∀ n, ∀ v : Wd, v.length = n → WordOk d v → ∃ w ∈ leastW ways (gt ways 0).length, walkOf ways 0 w = walkOf ways 0 v from fun {v} h => this v.length v rfl h
  intro n
  induction n with
  | zero =>
    intro v hv _
    obtain rfl := List.length_eq_zero_iff.mp hv
    exact ⟨[], List.mem_of_getElem? L.h0, rfl⟩
  | succ n ih =>
    intro v hv hw
    rcases List.eq_nil_or_concat v with rfl | ⟨u, x, rfl⟩
    · cases hv
    · rw [List.concat_eq_append] at hv hw ⊢
      obtain ⟨w, h1, h2⟩ := ih u (by simpa using hv) fun y hy => hw y (List.mem_append_left _ hy)
      have hx := hw x (by simp)
      obtain ⟨w', a, b, _⟩ := L.beh w h1 x.toNat (by omega)
      refine ⟨w', a, ?_⟩
      rw [b, Int.toNat_of_nonneg hx.1, walkOf_snoc, walkOf_snoc, h2]
theorem kinds_ok (hk : HouseOk d ways lamps) : (∀ k ∈ kindsOf ways lamps, ∃ u, WordOk d u ∧ walkOf ways 0 u = k) ∧ (kindsOf ways lamps).Pairwise (Apart ways lamps d) ∧ ∀ v, WordOk d v → ∃ k ∈ kindsOf ways lamps, Alike ways lamps d k (walkOf ways 0 v) := by
  have hn := row_len hk (room0 hk)
  have k' : HouseOk ((gt ways 0).length : Nat) ways lamps := hn ▸ hk
  have L := leastW_ok k'
  have hl : ∀ w ∈ leastW ways (gt ways 0).length, WordOk d w := fun w hw => by have := (L.wd w hw).1; rwa [hn] at this
  have K := kept_fold hk (l := leastW ways (gt ways 0).length) (ws := []) (kept := []) (fun w hw => (by cases hw)) hl ⟨fun k hk => (by cases hk), .nil, fun w hw => (by cases hw)⟩
  rw [List.nil_append] at K
  refine ⟨fun k hk2 => ?_, K.df, fun v hv => ?_⟩
  · obtain ⟨w, hw, e⟩ := K.re k hk2
    exact ⟨w, hl w hw, e⟩
  · obtain ⟨w, h1, h2⟩ := least_cover hk hv
    rw [← h2]
    exact K.al w h1
theorem kinds_rooms (hk : HouseOk d ways lamps) : (kindsOf ways lamps).length ≤ ways.length := by
  obtain ⟨a, b, c⟩ := kinds_ok hk
  have := count_le (rel := fun (k : Int) (i : Nat) => k.toNat = i ∧ 0 ≤ k) (A := kindsOf ways lamps) (L := List.range ways.length) (fun k hk2 => by
    obtain ⟨u, hu, e⟩ := a k hk2
    have := walk_in hk (room0 hk) hu
    exact ⟨k.toNat, List.mem_range.mpr (by omega), rfl, by omega⟩) (b.imp fun {x y} h i h1 h2 => by
    have : x = y := by omega
    obtain ⟨t, _, q⟩ := h
    exact q (by rw [this]))
  simpa using this
/-- a house that says the same has no fewer rooms than there are kinds -/
theorem kinds_least {gW : List (List Int)} {gL : List Bool} (hk : HouseOk d ways lamps) (hg : HouseOk d gW gL) (h : ∀ w, WordOk d w → litOf gW gL 0 w = litOf ways lamps 0 w) : (kindsOf ways lamps).length ≤ gW.length := by
  obtain ⟨a, b, c⟩ := kinds_ok hk
  have := count_le (rel := fun (k : Int) (i : Nat) => ∃ u, WordOk d u ∧ walkOf ways 0 u = k ∧ walkOf gW 0 u = (i : Int)) (A := kindsOf ways lamps) (L := List.range gW.length) (fun k hk2 => by
    obtain ⟨u, hu, e⟩ := a k hk2
    have := walk_in hg (room0 hg) hu
    exact ⟨(walkOf gW 0 u).toNat, List.mem_range.mpr (by omega), u, hu, e, by omega⟩) (b.imp fun {x y} q i h1 h2 => by
    obtain ⟨t, ht, ne⟩ := q
    obtain ⟨u, hu, e1, e2⟩ := h1
    obtain ⟨v, hv, e3, e4⟩ := h2
    apply ne
    have f1 := h (u ++ t) (hu.app ht)
    have f2 := h (v ++ t) (hv.app ht)
    unfold litOf at f1 f2 ⊢
    rw [walk_app, walk_app, e1, e2] at f1
    rw [walk_app, walk_app, e3, e4] at f2
    rw [← f1, ← f2])
  simpa using this
/-- a learner that is told by a house has no more heads than there are kinds -/
theorem heads_kinds {st : LSt} (hk : HouseOk d ways lamps) (hd : st.d = d) (hi : LOk st) (hr : LRich st) (hs : Told ways lamps st.notes) : st.heads.length ≤ (kindsOf ways lamps).length := by
  obtain ⟨a, b, c⟩ := kinds_ok hk
  refine count_le (rel := fun (h : Wd) (k : Int) => Alike ways lamps d k (walkOf ways 0 h)) (fun h hh => c h (hd ▸ (hi.hw h hh).1)) (hr.df.imp fun {g h} p k h1 h2 => ?_)
  obtain ⟨t, ht, b, e1, e2⟩ := p
  have f1 := hs _ _ e1
  have f2 := hs _ _ e2
  have hw := hd ▸ (hi.tw t ht).1
  have g1 := h1 t hw
  have g2 := h2 t hw
  unfold litOf at f1 f2 g1 g2
  rw [walk_app] at f1 f2
  rw [← g1] at f1
  rw [← g2, f1] at f2
  cases b <;> cases f2
end
end Ask
/-! A word against a guess: one of six drawn, else the least one. -/
namespace Ask
def HouseW (ways : List (List Int)) : Prop := ∃ doors lamps, HouseOk doors ways lamps
def HouseL (ways : List (List Int)) (lamps : List Bool) : Prop := ∃ doors, HouseOk doors ways lamps
def drawnW (ns : List Int) (turn : Int) (doors : Int) (k : Nat) : Wd := wordBy (cellAt ns (4 + turn) % 10000 + k * 31) doors (draw (cellAt ns (4 + turn) % 10000 + k * 31) k 6)
def againstOf (ns : List Int) (turn : Int) (ways gW : List (List Int)) (lamps gL : List Bool) : Option Wd :=
  match ((List.range 6).map (drawnW ns turn (gt ways 0).length)).find? (fun w => decide (litOf ways lamps 0 w ≠ litOf gW gL 0 w)) with
  | some w => some w
  | none => partOf ways gW lamps 0 gL 0 (gt ways 0).length
theorem least_wd {d : Int} {ways : List (List Int)} {lamps : List Bool} (hk : HouseOk d ways lamps) : ∀ w ∈ leastW ways (gt ways 0).length, WordOk d w := by
  have hn := row_len hk (room0 hk)
  have k' : HouseOk ((gt ways 0).length : Nat) ways lamps := hn ▸ hk
  intro w hw
  have := ((leastW_ok k').wd w hw).1
  rwa [hn] at this
theorem keep_len {ways : List (List Int)} {lamps : List Bool} : ∀ {l : List Wd} {kept : List Int}, (l.foldl (keepK ways lamps) kept).length ≤ kept.length + l.length
  | [], kept => by simp
  | w :: l, kept => by
    rw [List.foldl_cons]
    have := keep_len (ways := ways) (lamps := lamps) (l := l) (kept := keepK ways lamps kept w)
    have h2 : (keepK ways lamps kept w).length ≤ kept.length + 1 := by unfold keepK; split <;> simp
    rw [List.length_cons]; omega
theorem kept_rooms {d : Int} {ways : List (List Int)} {lamps : List Bool} (hk : HouseOk d ways lamps) (i : Nat) : (((leastW ways (gt ways 0).length).take i).foldl (keepK ways lamps) []).length ≤ 400 ∧ ∀ k ∈ ((leastW ways (gt ways 0).length).take i).foldl (keepK ways lamps) [], 0 ≤ k ∧ k < (ways.length : Int) := by
  have hn := row_len hk (room0 hk)
  have k' : HouseOk ((gt ways 0).length : Nat) ways lamps := hn ▸ hk
  have hs := (leastW_ok k').toInvW.small k'
  have h4 := hk.2.2.2.1
  have hl : ∀ w ∈ (leastW ways (gt ways 0).length).take i, WordOk d w := fun w hw => least_wd hk w (List.mem_of_mem_take hw)
  have K := kept_fold hk (l := (leastW ways (gt ways 0).length).take i) (ws := []) (kept := []) (fun w hw => (by cases hw)) hl ⟨fun k hk => (by cases hk), .nil, fun w hw => (by cases hw)⟩
  refine ⟨?_, fun k hk2 => ?_⟩
  · have := keep_len (ways := ways) (lamps := lamps) (l := (leastW ways (gt ways 0).length).take i) (kept := [])
    rw [List.length_take, List.length_nil] at this
    omega
  · obtain ⟨w, hw, rfl⟩ := K.re k hk2
    exact walk_in hk (room0 hk) (hl w (by simpa using hw))
theorem find_snoc {α : Type} {p : α → Bool} {l : List α} {i : Nat} {x : α} (h : (l.take i).find? p = none) (hx : l[i]? = some x) (hp : p x = false) : (l.take (i + 1)).find? p = none := by
  rw [take_snoc hx, List.find?_append, h, List.find?_cons, hp]; rfl
theorem find_hit {α : Type} {p : α → Bool} {l : List α} {i : Nat} {x : α} (h : (l.take i).find? p = none) (hx : l[i]? = some x) (hp : p x = true) : l.find? p = some x := by
  have hi := (List.getElem?_eq_some_iff.mp hx).1
  have e1 : l = l.take i ++ x :: l.drop (i + 1) := by
    have := List.take_append_drop i l
    rw [List.drop_eq_getElem_cons hi] at this
    rw [← Option.some.inj ((List.getElem?_eq_getElem hi).symm.trans hx)]
    exact this.symm
  rw [e1, List.find?_append, h, List.find?_cons, hp]; rfl
end Ask
/-! How much is asked at the most. -/
namespace Ask
theorem mem_cands {d : Int} {heads tails : List Wd} {w : Wd} : w ∈ candsOf d heads tails ↔ ∃ h ∈ heads, ∃ l ∈ linesOf d h, ∃ t ∈ tails, w = l ++ t := by
  unfold candsOf
  simp only [List.mem_flatMap, List.mem_map]
  constructor
  · rintro ⟨h, hh, l, hl, t, ht, rfl⟩; exact ⟨h, hh, l, hl, t, ht, rfl⟩
  · rintro ⟨h, hh, l, hl, t, ht, rfl⟩; exact ⟨h, hh, l, hl, t, ht, rfl⟩
theorem flat_len {α β : Type} {f : α → List β} {n : Nat} : ∀ {l : List α}, (∀ a ∈ l, (f a).length = n) → (l.flatMap f).length = l.length * n
  | [], _ => by simp
  | a :: l, h => by
    rw [List.flatMap_cons, List.length_append, h a List.mem_cons_self, flat_len fun x hx => h x (List.mem_cons_of_mem _ hx), List.length_cons, Nat.succ_mul, Nat.add_comm]
theorem cands_len {d : Int} {heads tails : List Wd} : (candsOf d heads tails).length = heads.length * ((d.toNat + 1) * tails.length) := by
  unfold candsOf
  refine flat_len fun h _ => ?_
  rw [flat_len (n := tails.length) fun l _ => by simp, len_lines]
/-- no more was said than could be asked -/
theorem notes_few {st : LSt} (hr : LRich st) (hn : (st.notes.map Prod.fst).Nodup) : st.notes.length ≤ st.heads.length * ((st.d.toNat + 1) * st.tails.length) := by
  have := nodup_sub_length (m := candsOf st.d st.heads st.tails) hn fun w hw => by
    obtain ⟨e, he, rfl⟩ := List.mem_map.mp hw
    exact mem_cands.mpr (hr.nt e.1 (by rw [lk_nd hn he]; simp))
  rwa [List.length_map, cands_len] at this
theorem word_one {w : Wd} (h : WordOk 1 w) : w = List.replicate w.length 0 := by
  refine List.eq_replicate_iff.mpr ⟨rfl, fun x hx => ?_⟩
  have := h x hx
  omega
/-- words of one door are told apart by how long they are -/
theorem one_few {l : List Wd} {n : Nat} (hn : l.Nodup) (hw : ∀ w ∈ l, WordOk 1 w ∧ w.length ≤ n) : l.length ≤ n + 1 := by
  have := nodup_sub_length (m := (List.range (n + 1)).map fun k => List.replicate k (0 : Int)) hn fun w hx => by
    obtain ⟨h1, h2⟩ := hw w hx
    exact List.mem_map.mpr ⟨w.length, List.mem_range.mpr (by omega), (word_one h1).symm⟩
  simpa using this
theorem pushT_nd {ts : List Wd} {t : Wd} (h : ts.Nodup) : (pushT ts t).Nodup := by
  unfold pushT
  split
  · exact h
  · rename_i q
    exact List.nodup_append.mpr ⟨h, by simp, fun a ha b hb => by rw [List.mem_singleton.mp hb]; exact fun z => q (z ▸ ha)⟩
theorem ends_nd {ts : List Wd} {w : Wd} (h : ts.Nodup) : (endsOf ts w).Nodup := by
  have : ∀ k, (endsK ts w k).Nodup := by
    intro k
    induction k with
    | zero => exact h
    | succ k ih => rw [endsK_succ]; exact pushT_nd ih
  exact this w.length
def tlB (h : Nat) : Nat := if h = 0 then 1 else 2 * h * h + 2 * h + 2
/-- how many tails there may be behind a guess of so many rooms -/
def Small (doors : Int) (rooms : Nat) (tails : List Wd) (before : Nat) : Prop :=
  (rooms ≤ 4 ∧ doors ≤ 3 ∧ tails.length ≤ tlB before ∧ ∀ t ∈ tails, t.length ≤ 16) ∨ (doors = 1 ∧ rooms ≤ 12 ∧ tails.Nodup ∧ ∀ t ∈ tails, WordOk doors t ∧ t.length ≤ 144)
theorem tlB_le {h : Nat} (hh : h ≤ 4) : tlB h ≤ 42 := by
  have : h = 0 ∨ h = 1 ∨ h = 2 ∨ h = 3 ∨ h = 4 := by omega
  rcases this with rfl | rfl | rfl | rfl | rfl <;> decide
theorem tlB_step {b h : Nat} (h1 : b < h) (h2 : h ≤ 4) : tlB b + max 5 (4 * h) ≤ tlB h := by
  have : h = 1 ∨ h = 2 ∨ h = 3 ∨ h = 4 := by omega
  rcases this with rfl | rfl | rfl | rfl
  · obtain rfl : b = 0 := by omega
    decide
  · have : b = 0 ∨ b = 1 := by omega
    rcases this with rfl | rfl <;> decide
  · have : b = 0 ∨ b = 1 ∨ b = 2 := by omega
    rcases this with rfl | rfl | rfl <;> decide
  · have : b = 0 ∨ b = 1 ∨ b = 2 ∨ b = 3 := by omega
    rcases this with rfl | rfl | rfl | rfl <;> decide
theorem Small.len {doors : Int} {rooms : Nat} {tails : List Wd} {before : Nat} (h : Small doors rooms tails before) (hb : before ≤ rooms) : tails.length ≤ 145 ∧ ∀ t ∈ tails, t.length ≤ 144 := by
  rcases h with ⟨h1, h2, h3, h4⟩ | ⟨h1, h2, h3, h4⟩
  · have := tlB_le (show before ≤ 4 by omega)
    exact ⟨by omega, fun t ht => Nat.le_trans (h4 t ht) (by decide)⟩
  · exact ⟨one_few h3 fun w hw => by rw [← h1]; exact h4 w hw, fun t ht => (h4 t ht).2⟩
theorem Small.notes {st : LSt} {rooms before : Nat} (h : Small st.d rooms st.tails before) (hb : before ≤ rooms) (hr : LRich st) (hk : LOk st) (hn : (st.notes.map Prod.fst).Nodup) (hh : st.heads.length ≤ rooms) : st.notes.length < 700 := by
  rcases h with ⟨h1, h2, h3, h4⟩ | ⟨h1, h2, h3, h4⟩
  · have a := notes_few hr hn
    have b := tlB_le (show before ≤ 4 by omega)
    have c : st.heads.length * ((st.d.toNat + 1) * st.tails.length) ≤ 4 * (4 * 42) := Nat.mul_le_mul (by omega) (Nat.mul_le_mul (by omega) (by omega))
    omega
  · have a := one_few (n := 12 + 1 + 144) hn fun w hw => by
      obtain ⟨e, he, rfl⟩ := List.mem_map.mp hw
      have hne : lk st.notes e.1 ≠ none := by rw [lk_nd hn he]; simp
      refine ⟨h1 ▸ rich_word hr hk hne, ?_⟩
      have := rich_len hr hk (fun t ht => (h4 t ht).2) hne
      omega
    rw [List.length_map] at a
    omega
theorem Small.wrong {doors : Int} {rooms : Nat} {tails : List Wd} {before h : Nat} {w : Wd} (s : Small doors rooms tails before) (h1 : before < h) (h2 : h ≤ rooms) (hw : WordOk doors w) (hl : w.length ≤ max 5 (rooms * h)) : Small doors rooms (endsOf tails w) h := by
  rcases s with ⟨a1, a2, a3, a4⟩ | ⟨a1, a2, a3, a4⟩
  · have b1 := tlB_step h1 (show h ≤ 4 by omega)
    have b2 : rooms * h ≤ 4 * h := Nat.mul_le_mul_right _ a1
    have b3 := endsOf_len (tails := tails) (w := w)
    exact .inl ⟨a1, a2, by omega, ends_len a4 (by omega)⟩
  · have b2 : rooms * h ≤ 12 * 12 := Nat.mul_le_mul a2 (by omega)
    refine .inr ⟨a1, a2, ends_nd a3, fun t ht => ⟨?_, ends_len (fun t ht => (a4 t ht).2) (show w.length ≤ 144 by omega) t ht⟩⟩
    rcases endsK_mem (k := w.length) ht with q | ⟨j, rfl⟩
    · exact (a4 t q).1
    · exact fun x hx => hw x (List.mem_of_mem_drop hx)
theorem against_ok {ns : List Int} {turn doors : Int} {ways gW : List (List Int)} {lamps gL : List Bool} (hk : HouseOk doors ways lamps) (hg : HouseOk doors gW gL) :
    (againstOf ns turn ways gW lamps gL = none → ∀ w, WordOk doors w → litOf gW gL 0 w = litOf ways lamps 0 w) ∧ ∀ w, againstOf ns turn ways gW lamps gL = some w → WordOk doors w ∧ litOf gW gL 0 w ≠ litOf ways lamps 0 w ∧ w.length ≤ max 5 (ways.length * gW.length) := by
  have hn := row_len hk (room0 hk)
  unfold againstOf
  cases hf : ((List.range 6).map (drawnW ns turn (gt ways 0).length)).find? (fun w => decide (litOf ways lamps 0 w ≠ litOf gW gL 0 w)) with
  | some x =>
    refine ⟨fun h => (by cases h), fun w h => ?_⟩
    cases h
    have h1 := List.find?_some hf
    obtain ⟨k, hk2, rfl⟩ := List.mem_map.mp (List.mem_of_find?_eq_some hf)
    have hd1 := hk.1
    refine ⟨?_, fun z => (of_decide_eq_true h1) z.symm, ?_⟩
    · have := wordBy_ok (cell := cellAt ns (4 + turn) % 10000 + (k : Int) * 31) (size := draw (cellAt ns (4 + turn) % 10000 + (k : Int) * 31) k 6) (show 1 ≤ doors by omega)
      unfold drawnW
      rw [hn]; exact this
    · have hdr := draw_in (cell := cellAt ns (4 + turn) % 10000 + (k : Int) * 31) (k := k) (bound := 6) (by decide)
      unfold drawnW
      simp only [wordBy, List.length_map, List.length_range]
      omega
  | none =>
    refine ⟨fun h w hw => (part_none hk hg (room0 hk) (room0 hg) h hw).symm, fun w h => ?_⟩
    obtain ⟨a, b, c⟩ := part_some hk hg (room0 hk) (room0 hg) h
    exact ⟨a, b.symm, by omega⟩
end Ask
/-! A lesson, a step at a time. -/
namespace Ask
open PySem L2
section
variable (ways : List (List Int)) (lamps : List Bool)
def lesStep (p : LSt × List Wd) : Option (LSt × List Wd) :=
  match p.1.waiting with
  | w :: _ => some (answerOf p.1 (litOf ways lamps 0 w), p.2)
  | [] => match partOf (guessW p.1) ways (guessL p.1) 0 lamps 0 p.1.d.toNat with
    | none => none
    | some w => some (wrongOf p.1 w (litOf ways lamps 0 w), p.2 ++ [w])
def lesRun (d : Int) : Nat → LSt × List Wd
  | 0 => (initOf d, [])
  | n + 1 => match lesStep ways lamps (lesRun d n) with
    | some q => q
    | none => lesRun d n
def lesEnd (d : Int) : LSt × List Wd := lesRun ways lamps d 900
end
structure Good (d : Int) (ways : List (List Int)) (lamps : List Bool) (st : LSt) : Prop where
  i : LInv st
  r : LRich st
  nd : (st.notes.map Prod.fst).Nodup
  td : Told ways lamps st.notes
  e : st.d = d
section
variable {d : Int} {ways : List (List Int)} {lamps : List Bool} {st : LSt} {w : Wd}
theorem Good.start (hk : HouseOk d ways lamps) : Good d ways lamps (initOf d) := by
  have h := settle_ok (init_ok hk.1 hk.2.1)
  have hn : (initOf d).notes = [] := h.2.n
  exact ⟨h.1, rich_start hk.1 hk.2.1, by rw [hn]; exact .nil, by rw [hn]; exact told_nil, h.2.d⟩
theorem Good.kinds (g : Good d ways lamps st) (hk : HouseOk d ways lamps) : st.heads.length ≤ (kindsOf ways lamps).length := heads_kinds hk g.e g.i.ok g.r g.td
theorem Good.rooms (g : Good d ways lamps st) (hk : HouseOk d ways lamps) : st.heads.length ≤ ways.length := heads_few hk g.e g.i.ok g.r g.td
theorem Good.one (g : Good d ways lamps st) : 1 ≤ st.heads.length := (List.getElem?_eq_some_iff.mp g.r.h0).1
theorem Good.house (g : Good d ways lamps st) (hk : HouseOk d ways lamps) (hz : st.waiting = []) : HouseOk d (guessW st) (guessL st) := by
  have h1 := g.rooms hk
  have h2 := hk.2.2.2.1
  rw [← g.e]
  exact guess_house g.i hz (by omega) g.one
theorem guessW_len : (guessW st).length = st.heads.length := by simp [guessW]
theorem Good.wait (g : Good d ways lamps st) {ws : List Wd} (hw : st.waiting = w :: ws) : WordOk d w ∧ w.length ≤ 2000 ∧ lk st.notes w = none := by
  have := g.i.ok.wait (w := w) (by rw [← g.i.wt, hw]; exact List.mem_cons_self)
  rw [g.e] at this; exact this
theorem Good.answer (g : Good d ways lamps st) (hn : st.notes.length < 900) {ws : List Wd} (hw : st.waiting = w :: ws) : Good d ways lamps (answerOf st (litOf ways lamps 0 w)) := by
  obtain ⟨w1, w2, w3⟩ := g.wait hw
  obtain ⟨a1, a2, a3, a4, a5⟩ := answer_ok g.i hn hw (lit := litOf ways lamps 0 w)
  exact ⟨a1, g.r.answer g.i hn, by rw [a2]; exact ins_keys w3 g.nd, by rw [a2]; exact g.td.app rfl, a4.trans g.e⟩
theorem Good.unlike (g : Good d ways lamps st) (hz : st.waiting = []) (h : litOf (guessW st) (guessL st) 0 w ≠ litOf ways lamps 0 w) : lk st.notes w = none := by
  cases e : lk st.notes w with
  | none => rfl
  | some b => exact absurd ((guess_says g.i g.r hz e).trans (g.td w b e).symm) h
theorem Good.wrong (g : Good d ways lamps st) (hn : st.notes.length < 900) (hw : WordOk d w) (hl : w.length ≤ 1000) (ht : st.tails.length + w.length ≤ 1000) (hk : lk st.notes w = none) : Good d ways lamps (wrongOf st w (litOf ways lamps 0 w)) := by
  have hw' := g.e ▸ hw
  have hs : lk st.notes w ≠ some (!litOf ways lamps 0 w) := by rw [hk]; simp
  obtain ⟨b1, b2, b3, b4, b5⟩ := wrong_ok g.i.ok hn hw' hl ht (lit := litOf ways lamps 0 w)
  exact ⟨b1, g.r.wrong g.i.ok hn hw' hl ht hs, by rw [b3, ins_new hk]; exact ins_keys hk g.nd, by rw [b3]; exact g.td.ins rfl, b2.trans g.e⟩
theorem toNat_row (hk : HouseOk d ways lamps) : (gt ways 0).length = d.toNat := by
  have := row_len hk (room0 hk)
  omega
theorem Good.part (g : Good d ways lamps st) (hk : HouseOk d ways lamps) (hz : st.waiting = []) (hp : partOf (guessW st) ways (guessL st) 0 lamps 0 st.d.toNat = some w) : WordOk d w ∧ litOf (guessW st) (guessL st) 0 w ≠ litOf ways lamps 0 w ∧ w.length ≤ st.heads.length * ways.length := by
  have hg := g.house hk hz
  rw [g.e, ← toNat_row hg] at hp
  have := part_some hg hk (room0 hg) (room0 hk) hp
  rwa [guessW_len] at this
theorem Good.same (g : Good d ways lamps st) (hk : HouseOk d ways lamps) (hz : st.waiting = []) (hp : partOf (guessW st) ways (guessL st) 0 lamps 0 st.d.toNat = none) (hw : WordOk d w) : litOf (guessW st) (guessL st) 0 w = litOf ways lamps 0 w := by
  have hg := g.house hk hz
  rw [g.e, ← toNat_row hg] at hp
  exact part_none hg hk (room0 hg) (room0 hk) hp hw
structure LesI (d : Int) (ways : List (List Int)) (lamps : List Bool) (p : LSt × List Wd) : Prop where
  g : Good d ways lamps p.1
  wn : p.2.Nodup
  ww : ∀ w ∈ p.2, WordOk d w ∧ lk p.1.notes w ≠ none
  gr : Grow p.1 ((p.2.length : Nat) + 1 : Int)
  nl : p.1.notes.length < 900
  tl : p.1.tails.length ≤ 800
structure Teach (d : Int) (ways : List (List Int)) (lamps : List Bool) : Prop where
  ok : HouseOk d ways lamps
  sm : ways.length ≤ 14
  run : ∀ n, LesI d ways lamps (lesRun ways lamps d n)
theorem Teach.of (hk : HouseOk d ways lamps) (hs : ways.length ≤ 14) {Q : LSt → Prop} (q0 : Q (initOf d)) (qb : ∀ st, Good d ways lamps st → Q st → st.notes.length < 900 ∧ st.tails.length ≤ 800)
    (qa : ∀ st w ws, Good d ways lamps st → Q st → st.waiting = w :: ws → Later st (answerOf st (litOf ways lamps 0 w)) → (answerOf st (litOf ways lamps 0 w)).tails = st.tails → Q (answerOf st (litOf ways lamps 0 w)))
    (qw : ∀ st w, Good d ways lamps st → Q st → st.waiting = [] → partOf (guessW st) ways (guessL st) 0 lamps 0 st.d.toNat = some w → WordOk d w → w.length ≤ st.heads.length * ways.length → (wrongOf st w (litOf ways lamps 0 w)).tails = endsOf st.tails w → Grow (wrongOf st w (litOf ways lamps 0 w)) ((st.heads.length : Nat) + 1 : Int) → Later st (wrongOf st w (litOf ways lamps 0 w)) → Q (wrongOf st w (litOf ways lamps 0 w))) : Teach d ways lamps := by
  refine ⟨hk, hs, fun n => ?_⟩
  suffices LesI d ways lamps (lesRun ways lamps d n) ∧ Q (lesRun ways lamps d n).1 from this.1
  induction n with
  | zero =>
    have g : Good d ways lamps (initOf d) := Good.start hk
    obtain ⟨b1, b2⟩ := qb _ g q0
    exact ⟨⟨g, .nil, fun w h => absurd h (by simp [lesRun]), grow_one, b1, b2⟩, q0⟩
  | succ n ih =>
    obtain ⟨ih, ihq⟩ := ih
    show LesI d ways lamps (match lesStep ways lamps (lesRun ways lamps d n) with | some q => q | none => lesRun ways lamps d n) ∧ Q (match lesStep ways lamps (lesRun ways lamps d n) with | some q => q | none => lesRun ways lamps d n).1
    generalize lesRun ways lamps d n = p at *
    obtain ⟨st, wrs⟩ := p
    have g : Good d ways lamps st := ih.g
    have hnl : st.notes.length < 900 := ih.nl
    have htl : st.tails.length ≤ 800 := ih.tl
    have hgr : Grow st ((wrs.length : Nat) + 1 : Int) := ih.gr
    have ihq' : Q st := ihq
    cases hst : lesStep ways lamps (st, wrs) with
    | none => exact ⟨ih, ihq⟩
    | some q =>
      dsimp only
      unfold lesStep at hst
      dsimp only at hst
      cases hw : st.waiting with
      | cons w ws =>
        rw [hw] at hst
        dsimp only at hst
        cases hst
        obtain ⟨a1, a2, a3, a4, a5⟩ := answer_ok g.i hnl hw (lit := litOf ways lamps 0 w)
        have a7 := later_answer (lit := litOf ways lamps 0 w) g.i hnl hw
        have g2 := g.answer hnl hw
        have q2 := qa st w ws g ihq' hw a7 a3
        obtain ⟨b1, b2⟩ := qb _ g2 q2
        refine ⟨⟨g2, ih.wn, fun x hx => ⟨(ih.ww x hx).1, fun z => ?_⟩, hgr.later a7, b1, b2⟩, q2⟩
        have h1 := (ih.ww x hx).2
        cases e : lk st.notes x with
        | none => exact h1 e
        | some b => rw [a7.n x b e] at z; cases z
      | nil =>
        rw [hw] at hst
        dsimp only at hst
        cases hp : partOf (guessW st) ways (guessL st) 0 lamps 0 st.d.toNat with
        | none => rw [hp] at hst; cases hst
        | some w =>
          rw [hp] at hst
          cases hst
          obtain ⟨p1, p2, p3⟩ := g.part hk hw hp
          have hlk := g.unlike hw p2
          have hrm := g.rooms hk
          have hwl : w.length ≤ 196 := Nat.le_trans p3 (Nat.mul_le_mul (show st.heads.length ≤ 14 by omega) hs)
          have hs1 : lk st.notes w ≠ some (!litOf ways lamps 0 w) := by rw [hlk]; simp
          have p1' := g.e ▸ p1
          obtain ⟨b1, b2, b3, b4, b5⟩ := wrong_ok g.i.ok hnl p1' (show w.length ≤ 1000 by omega) (show st.tails.length + w.length ≤ 1000 by omega) (lit := litOf ways lamps 0 w)
          have b7 := later_wrong g.i.ok hnl p1' (show w.length ≤ 1000 by omega) (show st.tails.length + w.length ≤ 1000 by omega) hs1
          have b8 := grow_wrong g.i g.r hw hnl p1' (show w.length ≤ 1000 by omega) (show st.tails.length + w.length ≤ 1000 by omega) hs1 p2
          have g2 := g.wrong hnl p1 (show w.length ≤ 1000 by omega) (show st.tails.length + w.length ≤ 1000 by omega) hlk
          have q2 := qw st w g ihq' hw hp p1 p3 b4 b8 b7
          obtain ⟨c1, c2⟩ := qb _ g2 q2
          have hge := hgr st g.i g.r hw Later.refl
          have hnw : w ∉ wrs := fun z => (ih.ww w z).2 hlk
          refine ⟨⟨g2, ?_, fun x hx => ?_, fun st' h1 h2 h3 h4 => ?_, c1, c2⟩, q2⟩
          · refine List.nodup_append.mpr ⟨ih.wn, by simp, fun a ha b hb => ?_⟩
            rw [List.mem_singleton.mp hb]
            exact fun z => hnw (z ▸ ha)
          · rw [List.mem_append, List.mem_singleton] at hx
            show WordOk d x ∧ lk (wrongOf st w (litOf ways lamps 0 w)).notes x ≠ none
            rw [b3, lk_ins]
            rcases hx with hx | rfl
            · refine ⟨(ih.ww x hx).1, ?_⟩
              split
              · simp
              · exact (ih.ww x hx).2
            · exact ⟨p1, by simp⟩
          · have := b8 st' h1 h2 h3 h4
            show (((wrs ++ [w]).length : Nat) + 1 : Int) ≤ st'.heads.length
            rw [List.length_append, List.length_singleton]
            omega
theorem lesRun_some {n : Nat} {q : LSt × List Wd} (h : lesStep ways lamps (lesRun ways lamps d n) = some q) : lesRun ways lamps d (n + 1) = q := by
  show (match lesStep ways lamps (lesRun ways lamps d n) with | some q => q | none => _) = q
  rw [h]
theorem lesRun_none {n : Nat} (h : lesStep ways lamps (lesRun ways lamps d n) = none) : ∀ k, lesRun ways lamps d (n + k) = lesRun ways lamps d n
  | 0 => rfl
  | k + 1 => by
    show (match lesStep ways lamps (lesRun ways lamps d (n + k)) with | some q => q | none => lesRun ways lamps d (n + k)) = _
    rw [lesRun_none h k, h]
theorem lesStep_notes (t : Teach d ways lamps) {n : Nat} {q : LSt × List Wd} (h : lesStep ways lamps (lesRun ways lamps d n) = some q) : q.1.notes.length = (lesRun ways lamps d n).1.notes.length + 1 := by
  have ih := t.run n
  generalize lesRun ways lamps d n = p at *
  obtain ⟨st, wrs⟩ := p
  have g : Good d ways lamps st := ih.g
  have hnl : st.notes.length < 900 := ih.nl
  have htl : st.tails.length ≤ 800 := ih.tl
  unfold lesStep at h
  dsimp only at h ⊢
  cases hw : st.waiting with
  | cons w ws =>
    rw [hw] at h
    cases h
    obtain ⟨a1, a2, a3, a4, a5⟩ := answer_ok g.i hnl hw (lit := litOf ways lamps 0 w)
    dsimp only; rw [a2]; simp
  | nil =>
    rw [hw] at h
    dsimp only at h
    cases hp : partOf (guessW st) ways (guessL st) 0 lamps 0 st.d.toNat with
    | none => rw [hp] at h; cases h
    | some w =>
      rw [hp] at h
      cases h
      obtain ⟨p1, p2, p3⟩ := g.part t.ok hw hp
      have hlk := g.unlike hw p2
      have hrm := g.rooms t.ok
      have hwl : w.length ≤ 196 := Nat.le_trans p3 (Nat.mul_le_mul (show st.heads.length ≤ 14 by have := t.sm; omega) t.sm)
      have p1' := g.e ▸ p1
      obtain ⟨b1, b2, b3, b4, b5⟩ := wrong_ok g.i.ok hnl p1' (show w.length ≤ 1000 by omega) (show st.tails.length + w.length ≤ 1000 by omega) (lit := litOf ways lamps 0 w)
      dsimp only; rw [b3, ins_new hlk]; simp
theorem les_done (t : Teach d ways lamps) {n : Nat} (h : lesStep ways lamps (lesRun ways lamps d n) = none) (hn : n ≤ 900) : lesEnd ways lamps d = lesRun ways lamps d n := by
  have := lesRun_none h (900 - n)
  rwa [show n + (900 - n) = 900 by omega] at this
theorem les_count (t : Teach d ways lamps) : ∀ n, (∃ m, m ≤ n ∧ lesStep ways lamps (lesRun ways lamps d m) = none) ∨ (lesRun ways lamps d n).1.notes.length = n
  | 0 => .inr (by show (initOf d).notes.length = 0; rw [show (initOf d).notes = [] from (settle_ok (init_ok t.ok.1 t.ok.2.1)).2.n]; rfl)
  | n + 1 => by
    rcases les_count t n with ⟨m, h1, h2⟩ | h
    · exact .inl ⟨m, by omega, h2⟩
    · cases e : lesStep ways lamps (lesRun ways lamps d n) with
      | none => exact .inl ⟨n, by omega, e⟩
      | some q => exact .inr (by rw [lesRun_some e, lesStep_notes t e, h])
theorem les_stop (t : Teach d ways lamps) : ∃ n, n ≤ 900 ∧ lesStep ways lamps (lesRun ways lamps d n) = none ∧ lesEnd ways lamps d = lesRun ways lamps d n := by
  rcases les_count t 900 with ⟨m, h1, h2⟩ | h
  · exact ⟨m, h1, h2, les_done t h2 h1⟩
  · have := (t.run 900).nl
    omega
/-- what a lesson comes to -/
theorem les_end (t : Teach d ways lamps) : (lesEnd ways lamps d).1.waiting = [] ∧ partOf (guessW (lesEnd ways lamps d).1) ways (guessL (lesEnd ways lamps d).1) 0 lamps 0 (lesEnd ways lamps d).1.d.toNat = none ∧ (lesEnd ways lamps d).1.heads.length = (kindsOf ways lamps).length ∧ LesI d ways lamps (lesEnd ways lamps d) ∧ (lesEnd ways lamps d).2.length < (kindsOf ways lamps).length := by
  obtain ⟨n, h1, h2, h3⟩ := les_stop t
  rw [h3]
  have ih := t.run n
  generalize lesRun ways lamps d n = p at *
  obtain ⟨st, wrs⟩ := p
  have g : Good d ways lamps st := ih.g
  unfold lesStep at h2
  dsimp only at h2 ⊢
  cases hw : st.waiting with
  | cons w ws => rw [hw] at h2; cases h2
  | nil =>
    rw [hw] at h2
    dsimp only at h2
    cases hp : partOf (guessW st) ways (guessL st) 0 lamps 0 st.d.toNat with
    | some w => rw [hp] at h2; cases h2
    | none =>
      have k1 := g.kinds t.ok
      have k2 := kinds_least t.ok (g.house t.ok hw) fun w hwo => g.same t.ok hw hp hwo
      rw [guessW_len] at k2
      have hge := ih.gr st g.i g.r hw Later.refl
      dsimp only at hge
      exact ⟨rfl, rfl, by omega, ih, by omega⟩
theorem small_start (hsm : (d ≤ 3 ∧ ways.length ≤ 4) ∨ (d = 1 ∧ ways.length ≤ 12)) : Small d ways.length [[]] 0 := by
  rcases hsm with ⟨h1, h2⟩ | ⟨h1, h2⟩
  · exact .inl ⟨h2, h1, Nat.le_refl _, fun t ht => by rw [List.mem_singleton.mp ht]; simp⟩
  · exact .inr ⟨h1, h2, by simp, fun t ht => by rw [List.mem_singleton.mp ht]; exact ⟨fun x hx => (by cases hx), by simp⟩⟩
theorem teach_small (hk : HouseOk d ways lamps) (hsm : (d ≤ 3 ∧ ways.length ≤ 4) ∨ (d = 1 ∧ ways.length ≤ 12)) : Teach d ways lamps := by
  refine Teach.of hk (by omega) (Q := fun st => ∃ before, Small d ways.length st.tails before ∧ before ≤ ways.length ∧ Grow st ((before : Nat) + 1 : Int)) ⟨0, ?_, Nat.zero_le _, grow_one⟩ (fun st g hq => ?_) (fun st w ws g hq _ l ht => ?_) fun st w g hq hz _ hw hl ht hgr l => ?_
  · rw [show (initOf d).tails = [[]] from (settle_ok (init_ok hk.1 hk.2.1)).2.t]; exact small_start hsm
  · obtain ⟨b, h1, h2, h3⟩ := hq
    have := (h1.len h2).1
    exact ⟨Nat.lt_of_lt_of_le (Small.notes (g.e ▸ h1) h2 g.r g.i.ok g.nd (g.rooms hk)) (by decide), by omega⟩
  · obtain ⟨b, h1, h2, h3⟩ := hq
    exact ⟨b, by rw [ht]; exact h1, h2, h3.later l⟩
  · obtain ⟨b, h1, h2, h3⟩ := hq
    have h4 := h3 st g.i g.r hz Later.refl
    have h5 := g.rooms hk
    refine ⟨st.heads.length, ?_, h5, hgr⟩
    rw [ht]
    refine h1.wrong (by omega) h5 hw ?_
    have := Nat.mul_comm st.heads.length ways.length
    omega
end
end Ask
/-! How many entries a dict with tuple keys has. -/
namespace Ask
open PySem L2
section
variable {K : PySem.W.Frag} {B : Fr} {M : Ms} {Φ : Dt → Ms → Prop}
theorem ck_lenT {X : Cx} : CallR X (.builtin "len") rLenT := call_len_dT
instance s_lenTd {α : Type} {f : α → Dt} {a : Addr} {m : List (List Int × α)} [h : FindC M a (.dT (entT f m))] : Stp (OpN K B rLenT [.ref a] M Φ) (Φ (.int (m.length : Nat)) M) := ⟨fun k G H vs Q L rs q => by
  cases rs with | cons r1 r0 =>
    cases r0
    obtain ⟨ws, e, r⟩ := L.ats _ h.h
    exact ⟨a, ws, by rw [r1.refOf], e, by rw [r.len, entT_len]; exact q _ _ M G H L (Ex.refl G) (.int _) k⟩⟩
end
section
variable {d : Int} {ways : List (List Int)} {lamps : List Bool} {p : LSt × List Wd}
theorem LesI.words (h : LesI d ways lamps p) (hk : HouseOk d ways lamps) (hz : p.1.waiting = []) : p.2.length < ways.length ∧ ∀ w ∈ p.2, w.length ≤ 2000 := by
  have h1 := h.gr p.1 h.g.i h.g.r hz Later.refl
  have h2 := h.g.rooms hk
  have h3 := hk.2.2.2.1
  refine ⟨by omega, fun w hw => ?_⟩
  have := rich_len h.g.r h.g.i.ok (fun t ht => (h.g.i.ok.tw t ht).2) (h.ww w hw).2
  omega
theorem les_wrs {n : Nat} : ∀ k, (lesRun ways lamps d n).2.length ≤ (lesRun ways lamps d (n + k)).2.length
  | 0 => Nat.le_refl _
  | k + 1 => by
    refine Nat.le_trans (les_wrs k) ?_
    show _ ≤ (match lesStep ways lamps (lesRun ways lamps d (n + k)) with | some q => q | none => lesRun ways lamps d (n + k)).2.length
    cases h : lesStep ways lamps (lesRun ways lamps d (n + k)) with
    | none => exact Nat.le_refl _
    | some q =>
      generalize lesRun ways lamps d (n + k) = p at *
      unfold lesStep at h
      split at h
      · cases h; exact Nat.le_refl _
      · split at h
        · cases h
        · cases h; simp
end
end Ask
/-! Rings; a learner that is told nothing but darkness; marks of refusals. -/
namespace Ask
open PySem L2
def ringW (d rooms : Int) : List (List Int) := (List.range rooms.toNat).map fun k : Nat => (List.range d.toNat).map fun _ : Nat => ((k : Int) + 1) % rooms
def ringL (rooms : Int) : List Bool := (List.range rooms.toNat).map fun _ : Nat => false
theorem ring_ok {d rooms : Int} (h1 : 1 ≤ d) (h2 : d ≤ 6) (h3 : 1 ≤ rooms) (h4 : rooms ≤ 400) : HouseOk d (ringW d rooms) (ringL rooms) := by
  refine house_mk h1 h2 (by omega) (by omega) (by simp [ringL]) fun k hk => ⟨by simp; omega, fun x hx => ?_⟩
  obtain ⟨_, _, rfl⟩ := List.mem_map.mp hx
  have := mod_in (x := (k : Int) + 1) (m := rooms) (by omega)
  omega
theorem ring_len {d rooms : Int} (h : 0 ≤ rooms) : ((ringW d rooms).length : Int) = rooms := by simp [ringW]; omega
theorem ring_dark {rooms r : Int} : gt (ringL rooms) r = false := by
  unfold gt ringL
  rw [List.getD_eq_getElem?_getD, List.getElem?_map]
  cases (List.range rooms.toNat)[r.toNat]? <;> rfl
theorem cnt_dark {ways : List (List Int)} {lamps : List Bool} (h : ∀ r, gt lamps r = false) : ∀ (k : Nat) (r : Int), cnt ways lamps k r = 0
  | 0, r => by show (if gt lamps r = true then 1 else 0) = (0 : Int); rw [h r]; rfl
  | k + 1, r => by
    show ((gt ways r).map (cnt ways lamps k)).sum = 0
    generalize gt ways r = row
    induction row with
    | nil => rfl
    | cons a l ih => rw [List.map_cons, List.sum_cons, cnt_dark h k a, ih]; rfl
theorem ring_mix : 400 < (mixE (ringW 1 21) (ringW 1 20) 1).length := by decide +kernel
def taughtK (d : Int) : Nat → LSt
  | 0 => initOf d
  | k + 1 => answerOf (taughtK d k) false
def taughtB (d : Int) : Bool := (List.range (d.toNat + 1)).all (fun k => !(taughtK d k).waiting.isEmpty && decide ((taughtK d k).notes.length ≤ 10)) && (taughtK d (d.toNat + 1)).waiting.isEmpty && decide ((taughtK d (d.toNat + 1)).notes.length ≤ 10) && decide ((taughtK d (d.toNat + 1)).heads.length = 1) && decide ((taughtK d (d.toNat + 1)).tails.length = 1)
  && decide (lk (taughtK d (d.toNat + 1)).notes [0, d - 1] = none) && !litOf (guessW (taughtK d (d.toNat + 1))) (guessL (taughtK d (d.toNat + 1))) 0 [0, d - 1]
theorem taught_all : taughtB 1 && taughtB 2 && taughtB 3 && taughtB 4 && taughtB 5 = true := by decide +kernel
end Ask
/-! Rings; a learner that is told nothing but darkness; marks of refusals. -/
namespace Ask
open PySem L2
theorem taught_b {d : Int} (h1 : 1 ≤ d) (h5 : d ≤ 5) : taughtB d = true := by
  have h := taught_all
  simp only [Bool.and_eq_true] at h
  have hd : d = 1 ∨ d = 2 ∨ d = 3 ∨ d = 4 ∨ d = 5 := by omega
  rcases hd with rfl | rfl | rfl | rfl | rfl
  · exact h.1.1.1.1
  · exact h.1.1.1.2
  · exact h.1.1.2
  · exact h.1.2
  · exact h.2
structure Taught (d : Int) (st : LSt) : Prop where
  i : LInv st
  z : st.waiting = []
  e : st.d = d
  n : st.notes.length ≤ 10
  h : st.heads.length = 1
  t : st.tails.length = 1
  l : lk st.notes [0, d - 1] = none
  g : litOf (guessW st) (guessL st) 0 [0, d - 1] = false
theorem taught_step {d : Int} (h1 : 1 ≤ d) (h5 : d ≤ 5) {k : Nat} (hk : (k : Int) ≤ d) : (taughtK d k).waiting ≠ [] ∧ (taughtK d k).notes.length ≤ 10 := by
  have h := taught_b h1 h5
  unfold taughtB at h
  simp only [Bool.and_eq_true, List.all_eq_true, List.mem_range, Bool.not_eq_true', decide_eq_true_eq] at h
  obtain ⟨a, b⟩ := h.1.1.1.1.1.1 k (by omega)
  exact ⟨fun z => (by rw [z] at a; cases a), b⟩
theorem taught_inv {d : Int} (h1 : 1 ≤ d) (h5 : d ≤ 5) : ∀ k : Nat, (k : Int) ≤ d + 1 → LInv (taughtK d k) ∧ (taughtK d k).d = d
  | 0, _ => ⟨(settle_ok (init_ok h1 (by omega))).1, (settle_ok (init_ok h1 (by omega))).2.d⟩
  | k + 1, hk => by
    obtain ⟨a, b⟩ := taught_inv h1 h5 k (by omega)
    obtain ⟨c, e⟩ := taught_step h1 h5 (k := k) (by omega)
    obtain ⟨w, ws, hw⟩ := List.exists_cons_of_ne_nil c
    obtain ⟨a1, a2, a3, a4, a5⟩ := answer_ok a (by omega) hw (lit := false)
    exact ⟨a1, a4.trans b⟩
theorem taught_end {d : Int} (h1 : 1 ≤ d) (h5 : d ≤ 5) : Taught d (taughtK d (d.toNat + 1)) := by
  obtain ⟨a, b⟩ := taught_inv h1 h5 (d.toNat + 1) (by omega)
  have h := taught_b h1 h5
  unfold taughtB at h
  simp only [Bool.and_eq_true, Bool.not_eq_true', decide_eq_true_eq] at h
  exact ⟨a, List.isEmpty_iff.mp h.1.1.1.1.1.2, b, h.1.1.1.1.2, h.1.1.1.2, h.1.1.2, h.1.2, h.2⟩
class GetC (l : List Addr) (D : Addr) (i : outParam Nat) : Prop where h : l[i]? = some D
instance get0C {l : List Addr} {D : Addr} : GetC (D :: l) D 0 := ⟨rfl⟩
instance (priority := low) getSC {l : List Addr} {c D : Addr} {i : Nat} [h : GetC l D i] : GetC (c :: l) D (i + 1) := ⟨h.h⟩
def marksOf (i : Nat) : List Bool := (List.range 12).map fun k : Nat => decide (k = i ∨ k = 11)
end Ask
/-! Numbers by first appearance; kinds of rooms; the fewest house. -/
namespace Ask
open PySem L2
section
variable {κ : Type} [DecidableEq κ]
def addF (acc : List κ) (k : κ) : List κ := if k ∈ acc then acc else acc ++ [k]
def firstsOf (ks : List κ) : List κ := ks.foldl addF []
def numK (acc : List κ) : List (κ × Int) := acc.map fun k => (k, (ixO acc k : Int))
theorem addF_nd {acc : List κ} {k : κ} (h : acc.Nodup) : (addF acc k).Nodup := by
  unfold addF
  split
  · exact h
  · rename_i q
    exact List.nodup_append.mpr ⟨h, by simp, fun a ha b hb e => q (by rw [List.mem_singleton.mp hb] at e; exact e ▸ ha)⟩
theorem addF_sub {acc : List κ} {k x : κ} (h : x ∈ acc) : x ∈ addF acc k := by unfold addF; split <;> simp [h]
theorem addF_self {acc : List κ} {k : κ} : k ∈ addF acc k := by unfold addF; split <;> simp_all
theorem addF_mem {acc : List κ} {k x : κ} (h : x ∈ addF acc k) : x ∈ acc ∨ x = k := by
  unfold addF at h
  split at h
  · exact .inl h
  · simpa using h
theorem firsts_succ {ks : List κ} {k : κ} : firstsOf (ks ++ [k]) = addF (firstsOf ks) k := by unfold firstsOf; rw [List.foldl_append]; rfl
theorem addFs_nd : ∀ {ks acc : List κ}, acc.Nodup → (ks.foldl addF acc).Nodup
  | [], _, h => h
  | k :: ks, acc, h => addFs_nd (ks := ks) (addF_nd h)
theorem firsts_nd {ks : List κ} : (firstsOf ks).Nodup := addFs_nd List.nodup_nil
theorem addFs_mem {x : κ} : ∀ {ks acc : List κ}, x ∈ ks.foldl addF acc ↔ x ∈ acc ∨ x ∈ ks
  | [], acc => by simp
  | k :: ks, acc => by
    rw [List.foldl_cons, addFs_mem (ks := ks)]
    constructor
    · rintro (h | h)
      · rcases addF_mem h with q | q
        · exact .inl q
        · exact .inr (by simp [q])
      · exact .inr (by simp [h])
    · rintro (h | h)
      · exact .inl (addF_sub h)
      · rcases List.mem_cons.mp h with q | q
        · exact .inl (q ▸ addF_self)
        · exact .inr q
theorem firsts_mem {ks : List κ} {x : κ} : x ∈ firstsOf ks ↔ x ∈ ks := by unfold firstsOf; rw [addFs_mem]; simp
theorem addFs_pre : ∀ {ks acc : List κ}, acc <+: ks.foldl addF acc
  | [], acc => List.prefix_refl _
  | k :: ks, acc => by
    refine List.IsPrefix.trans ?_ (addFs_pre (ks := ks) (acc := addF acc k))
    unfold addF
    split
    · exact List.prefix_refl _
    · exact List.prefix_append _ _
theorem firsts_pre {a b : List κ} : firstsOf a <+: firstsOf (a ++ b) := by unfold firstsOf; rw [List.foldl_append]; exact addFs_pre
theorem ixO_app {a b : List κ} {x : κ} (h : x ∈ a) : ixO (a ++ b) x = ixO a x := by
  induction a with
  | nil => cases h
  | cons e a ih =>
    show (if e = x then 0 else ixO (a ++ b) x + 1) = if e = x then 0 else ixO a x + 1
    by_cases q : e = x
    · rw [if_pos q, if_pos q]
    · rw [if_neg q, if_neg q, ih ((List.mem_cons.mp h).resolve_left (Ne.symm q))]
theorem ixO_pre {a b : List κ} {x : κ} (h : x ∈ a) (p : a <+: b) : ixO b x = ixO a x := by
  obtain ⟨c, rfl⟩ := p
  exact ixO_app h
theorem ixO_new {a : List κ} {x : κ} (h : x ∉ a) : ixO (a ++ [x]) x = a.length := by
  induction a with
  | nil => show (if x = x then 0 else _) = 0; rw [if_pos rfl]
  | cons e a ih =>
    have h1 : ¬ e = x := fun q => h (by simp [q])
    show (if e = x then 0 else ixO (a ++ [x]) x + 1) = a.length + 1
    rw [if_neg h1, ih (fun q => h (List.mem_cons_of_mem _ q))]
theorem ixO_inj {l : List κ} {x y : κ} (hx : x ∈ l) (hy : y ∈ l) (h : ixO l x = ixO l y) : x = y := by
  have h1 := ixO_get hx
  have h2 := ixO_get hy
  rw [h] at h1
  exact Option.some.inj (h1.symm.trans h2)
theorem ixO_at {l : List κ} (hn : l.Nodup) {i : Nat} {x : κ} (h : l[i]? = some x) : ixO l x = i := by
  have hx := List.mem_of_getElem? h
  have h1 := ixO_get hx
  obtain ⟨a, e1⟩ := List.getElem?_eq_some_iff.mp h
  obtain ⟨b, e2⟩ := List.getElem?_eq_some_iff.mp h1
  have hp := List.pairwise_iff_getElem.mp hn
  rcases Nat.lt_trichotomy (ixO l x) i with z | z | z
  · exact absurd (e2.trans e1.symm) (hp _ _ b a z)
  · exact z
  · exact absurd (e1.trans e2.symm) (hp _ _ a b z)
theorem lk_numK {acc : List κ} {k : κ} : lk (numK acc) k = if k ∈ acc then some (ixO acc k : Int) else none := by
  unfold numK
  have : ∀ (l : List κ) (g : κ → Int), lk (l.map fun k => (k, g k)) k = if k ∈ l then some (g k) else none := by
    intro l g
    induction l with
    | nil => rfl
    | cons e l ih =>
      rw [List.map_cons, lk_cons, ih]
      by_cases q : e = k
      · rw [if_pos q, if_pos (by simp [q]), q]
      · rw [if_neg q]
        by_cases m : k ∈ l
        · rw [if_pos m, if_pos (List.mem_cons_of_mem _ m)]
        · rw [if_neg m, if_neg (fun z => (List.mem_cons.mp z).elim (fun e' => q e'.symm) m)]
  exact this acc fun k => (ixO acc k : Int)
theorem ins_numK {acc : List κ} {k : κ} (h : k ∉ acc) : ins (numK acc) k (acc.length : Int) = numK (acc ++ [k]) := by
  rw [ins_new (by rw [lk_numK, if_neg h])]
  unfold numK
  rw [List.map_append, List.map_cons, List.map_nil, ixO_new h]
  congr 1
  exact List.map_congr_left fun x hx => by rw [ixO_app hx]
theorem numK_len {acc : List κ} : (numK acc).length = acc.length := by simp [numK]
/-- the number of a key -/
def numOf (ks : List κ) (k : κ) : Int := (ixO (firstsOf ks) k : Int)
theorem numOf_inj {ks : List κ} {x y : κ} (hx : x ∈ ks) (hy : y ∈ ks) (h : numOf ks x = numOf ks y) : x = y := ixO_inj (firsts_mem.mpr hx) (firsts_mem.mpr hy) (by unfold numOf at h; omega)
theorem numOf_in {ks : List κ} {x : κ} (hx : x ∈ ks) : 0 ≤ numOf ks x ∧ numOf ks x < ((firstsOf ks).length : Int) := by
  have := ixO_lt (firsts_mem.mpr hx)
  unfold numOf; omega
theorem numOf_all {ks : List κ} {i : Nat} (h : i < (firstsOf ks).length) : ∃ x ∈ ks, numOf ks x = (i : Int) := by
  refine ⟨(firstsOf ks)[i], firsts_mem.mp (List.getElem_mem h), ?_⟩
  unfold numOf
  rw [ixO_at firsts_nd (List.getElem?_eq_getElem h)]
theorem addFs_len : ∀ {ks acc : List κ}, (ks.foldl addF acc).length ≤ acc.length + ks.length
  | [], acc => Nat.le_refl _
  | k :: ks, acc => by
    have h := addFs_len (ks := ks) (acc := addF acc k)
    have h2 : (addF acc k).length ≤ acc.length + 1 := by unfold addF; split <;> simp
    rw [List.foldl_cons, List.length_cons]; omega
theorem firsts_len {ks : List κ} : (firstsOf ks).length ≤ ks.length := by have := addFs_len (ks := ks) (acc := []); unfold firstsOf; simpa using this
end
/-- the first of each number, as they come -/
def repsOf {β : Type} (g : β → Int) (l : List β) : List β := l.foldl (fun acc x => if g x = (acc.length : Int) then acc ++ [x] else acc) []
section
variable {β κ : Type} [DecidableEq κ]
theorem reps_succ {g : β → Int} {l : List β} {x : β} : repsOf g (l ++ [x]) = if g x = ((repsOf g l).length : Int) then repsOf g l ++ [x] else repsOf g l := by unfold repsOf; rw [List.foldl_append]; rfl
theorem reps_map {γ : Type} {g : γ → Int} {h : β → γ} : ∀ {l : List β}, repsOf g (l.map h) = (repsOf (fun x => g (h x)) l).map h := by
  have : ∀ (l : List β) (acc : List β), (l.map h).foldl (fun acc x => if g x = (acc.length : Int) then acc ++ [x] else acc) (acc.map h) = (l.foldl (fun acc x => if g (h x) = (acc.length : Int) then acc ++ [x] else acc) acc).map h := by
    intro l
    induction l with
    | nil => intro acc; rfl
    | cons x l ih =>
      intro acc
      rw [List.map_cons, List.foldl_cons, List.foldl_cons, List.length_map, ← ih]
      congr 1
      split <;> simp
  intro l
  exact this l []
structure Reps (g : β → Int) (l : List β) (r : List β) : Prop where
  at' : ∀ (k : Nat) x, r[k]? = some x → g x = (k : Int)
  sub : r.Sublist l
  lt : ∀ x ∈ l, 0 ≤ g x ∧ g x < (r.length : Int)
  fst : ∀ (i : Nat) x, l[i]? = some x → ∃ i' y, i' ≤ i ∧ l[i']? = some y ∧ y ∈ r ∧ g y = g x
  hd : ∀ x, l[0]? = some x → g x = 0
theorem snoc_ind {P : List β → Prop} (h0 : P []) (h1 : ∀ l x, P l → P (l ++ [x])) : ∀ l, P l := fun l => by
  have : ∀ l : List β, P l.reverse := fun l => by
    induction l with
    | nil => exact h0
    | cons x l ih => rw [List.reverse_cons]; exact h1 _ _ ih
  have h := this l.reverse
  rwa [List.reverse_reverse] at h
/-- numbers by first appearance: each new one is the next -/
theorem reps_ok {key : β → κ} {l : List β} {ks : List κ} (hk : l.map key <+: ks) : Reps (fun x => numOf ks (key x)) l (repsOf (fun x => numOf ks (key x)) l) ∧ (repsOf (fun x => numOf ks (key x)) l).length = (firstsOf (l.map key)).length := by
  revert hk
  refine snoc_ind (P := fun l => l.map key <+: ks → Reps (fun x => numOf ks (key x)) l (repsOf (fun x => numOf ks (key x)) l) ∧ (repsOf (fun x => numOf ks (key x)) l).length = (firstsOf (l.map key)).length) (fun _ => ?_) (fun l x ih hk => ?_) l
  · exact ⟨⟨fun k x h => by simp [repsOf] at h, List.Sublist.refl _, fun x h => absurd h (by simp), fun i x h => by simp at h, fun x h => by simp at h⟩, rfl⟩
  rw [List.map_append, List.map_cons, List.map_nil] at hk
  obtain ⟨⟨a, b, c, fs, hd⟩, e⟩ := ih ((List.prefix_append _ _).trans hk)
  have hp : firstsOf (l.map key ++ [key x]) <+: firstsOf ks := by obtain ⟨t, rfl⟩ := hk; exact firsts_pre
  rw [firsts_succ] at hp
  have hx : numOf ks (key x) = (ixO (addF (firstsOf (l.map key)) (key x)) (key x) : Int) := by
    unfold numOf; rw [ixO_pre addF_self hp]
  rw [reps_succ, List.map_append, List.map_cons, List.map_nil, firsts_succ]
  have hhd : ∀ y, (l ++ [x])[0]? = some y → numOf ks (key y) = 0 := fun y hy => by
    rcases l with _ | ⟨z, l⟩
    · have : x = y := by simpa using hy
      subst this
      rw [hx]
      show ((ixO (addF [] (key x)) (key x) : Nat) : Int) = 0
      rw [show addF [] (key x) = [key x] from rfl, show ixO [key x] (key x) = 0 from if_pos rfl]; rfl
    · exact hd y (by simpa using hy)
  by_cases q : key x ∈ firstsOf (l.map key)
  · have hf : addF (firstsOf (l.map key)) (key x) = firstsOf (l.map key) := if_pos q
    rw [hf] at hx ⊢
    have hlt := ixO_lt q
    rw [if_neg (by omega)]
    refine ⟨⟨a, b.trans (List.sublist_append_left _ _), fun y hy => ?_, fun i y hy => ?_, hhd⟩, e⟩
    rotate_left
    · rcases Nat.lt_or_ge i l.length with z | z
      · rw [List.getElem?_append_left z] at hy
        obtain ⟨i', y', h1, h2, h3, h4⟩ := fs i y hy
        exact ⟨i', y', h1, by rw [List.getElem?_append_left (by omega)]; exact h2, h3, h4⟩
      · rw [List.getElem?_append_right z] at hy
        have hyx : y = x := by
          obtain ⟨_, h2⟩ := List.getElem?_eq_some_iff.mp hy
          simpa using h2.symm
        subst hyx
        have hn : (numOf ks (key y)).toNat < (repsOf (fun x => numOf ks (key x)) l).length := by omega
        have hg := List.getElem?_eq_getElem hn
        have hm := List.getElem_mem hn
        have hq := a _ _ hg
        obtain ⟨i', hi', hy'⟩ := List.getElem_of_mem (b.mem hm)
        exact ⟨i', _, by omega, by rw [List.getElem?_append_left hi', List.getElem?_eq_getElem hi', hy'], hm, by rw [hq]; omega⟩
    rcases List.mem_append.mp hy with z | z
    · exact c y z
    · rw [List.mem_singleton.mp z]
      show 0 ≤ numOf ks (key x) ∧ numOf ks (key x) < _
      omega
  · have hf : addF (firstsOf (l.map key)) (key x) = firstsOf (l.map key) ++ [key x] := if_neg q
    rw [hf] at hx ⊢
    rw [ixO_new q] at hx
    rw [if_pos (by omega)]
    refine ⟨⟨fun k y h => ?_, List.Sublist.append b (List.Sublist.refl _), fun y hy => ?_, fun i y hy => ?_, hhd⟩, by simp [e]⟩
    rotate_left 2
    · rcases Nat.lt_or_ge i l.length with z | z
      · rw [List.getElem?_append_left z] at hy
        obtain ⟨i', y', h1, h2, h3, h4⟩ := fs i y hy
        exact ⟨i', y', h1, by rw [List.getElem?_append_left (by omega)]; exact h2, List.mem_append_left _ h3, h4⟩
      · have hyx : y = x := by
          rw [List.getElem?_append_right z] at hy
          obtain ⟨_, h2⟩ := List.getElem?_eq_some_iff.mp hy
          simpa using h2.symm
        exact ⟨i, y, Nat.le_refl _, hy, by rw [hyx]; simp, rfl⟩
    · rcases Nat.lt_or_ge k (repsOf (fun x => numOf ks (key x)) l).length with z | z
      · rw [List.getElem?_append_left z] at h; exact a k y h
      · rw [List.getElem?_append_right z] at h
        obtain ⟨h1, h2⟩ := List.getElem?_eq_some_iff.mp h
        simp only [List.length_cons, List.length_nil] at h1
        have : k = (repsOf (fun x => numOf ks (key x)) l).length := by omega
        subst this
        simp only [Nat.sub_self, List.getElem_cons_zero] at h2
        rw [← h2]
        show numOf ks (key x) = _
        omega
    · rw [List.length_append, List.length_singleton]
      rcases List.mem_append.mp hy with z | z
      · have := c y z
        omega
      · rw [List.mem_singleton.mp z]
        show 0 ≤ numOf ks (key x) ∧ numOf ks (key x) < _
        omega
end
end Ask
/-! Kinds of rooms by Moore's way; the house of the kinds. -/
namespace Ask
open PySem L2
def keyR (ways : List (List Int)) (f : Int → Int) (r : Int) : List Int := f r :: (gt ways r).map f
def kfS (ways : List (List Int)) (lamps : List Bool) (R : List Int) : Nat → (Int → Int) × Nat
  | 0 => (fun r => numOf (R.map (gt lamps)) (gt lamps r), (firstsOf (R.map (gt lamps))).length)
  | j + 1 => (fun r => numOf (R.map (keyR ways (kfS ways lamps R j).1)) (keyR ways (kfS ways lamps R j).1 r), (firstsOf (R.map (keyR ways (kfS ways lamps R j).1))).length)
def prevC (ways : List (List Int)) (lamps : List Bool) (R : List Int) (j : Nat) : Nat := if j = 0 then 0 else (kfS ways lamps R (j - 1)).2
def kindJ (ways : List (List Int)) (lamps : List Bool) (R : List Int) : Nat → Nat → Nat
  | 0, j => j
  | f + 1, j => if prevC ways lamps R j < (kfS ways lamps R j).2 then kindJ ways lamps R f (j + 1) else j
def kindsF (ways : List (List Int)) (lamps : List Bool) (R : List Int) : Int → Int := (kfS ways lamps R (kindJ ways lamps R 401 0)).1
def roomsL (ways : List (List Int)) (n : Nat) : List Int := (leastW ways n).map (walkOf ways 0)
section
variable {n : Nat} {ways : List (List Int)} {lamps : List Bool} {a b : Int} {j : Nat}
theorem least_beh (hk : HouseOk n ways lamps) : ∀ {v : Wd}, WordOk n v → Beh ways (leastW ways n) v := by
  have L := leastW_ok hk
  suffices ∀ m, ∀ v : Wd, v.length = m → WordOk n v → Beh ways (leastW ways n) v from fun {v} h => this v.length v rfl h
  intro m
  induction m with
  | zero =>
    intro v hv _
    obtain rfl := List.length_eq_zero_iff.mp hv
    exact ⟨[], List.mem_of_getElem? L.h0, rfl, .inl rfl⟩
  | succ m ih =>
    intro v hv hw
    rcases List.eq_nil_or_concat v with rfl | ⟨u, x, rfl⟩
    · cases hv
    · rw [List.concat_eq_append] at hv hw ⊢
      obtain ⟨w, h1, h2, h3⟩ := ih u (by simpa using hv) fun y hy => hw y (List.mem_append_left _ hy)
      have hx := hw x (by simp)
      obtain ⟨w', a, b, c⟩ := L.beh w h1 x.toNat (by omega)
      rw [Int.toNat_of_nonneg hx.1] at b c
      refine ⟨w', a, by rw [b, walkOf_snoc, walkOf_snoc, h2], ?_⟩
      have hle : w ++ [x] = u ++ [x] ∨ sltB (w ++ [x]) (u ++ [x]) = true := h3.imp (fun e => by rw [e]) sltB_snoc
      rcases c with c | c
      · rw [c]; exact hle
      · rcases hle with e | e
        · rw [← e]; exact .inr c
        · exact .inr (sltB_trans c e)
theorem rooms_word {r : Int} (h : r ∈ roomsL ways n) : ∃ w ∈ leastW ways n, walkOf ways 0 w = r := List.mem_map.mp h
theorem rooms_in (hk : HouseOk n ways lamps) {r : Int} (h : r ∈ roomsL ways n) : 0 ≤ r ∧ r < (ways.length : Int) := by
  obtain ⟨w, hw, rfl⟩ := rooms_word h
  exact walk_in hk (room0 hk) ((leastW_ok hk).wd w hw).1
theorem rooms_reach (hk : HouseOk n ways lamps) {v : Wd} (h : WordOk n v) : walkOf ways 0 v ∈ roomsL ways n := by
  obtain ⟨w, h1, h2, _⟩ := least_beh hk h
  exact List.mem_map.mpr ⟨w, h1, h2⟩
theorem rooms_step (hk : HouseOk n ways lamps) {r d : Int} (h : r ∈ roomsL ways n) (hd : 0 ≤ d ∧ d < n) : stepOf ways r d ∈ roomsL ways n := by
  obtain ⟨w, hw, rfl⟩ := rooms_word h
  rw [← walkOf_snoc]
  refine rooms_reach hk fun x hx => ?_
  rcases List.mem_append.mp hx with q | q
  · exact ((leastW_ok hk).wd w hw).1 x q
  · rw [List.mem_singleton.mp q]; exact hd
theorem rooms_nd (hk : HouseOk n ways lamps) : (roomsL ways n).Nodup := (leastW_ok hk).nd
theorem rooms_len (hk : HouseOk n ways lamps) : (roomsL ways n).length ≤ ways.length := by
  have := (leastW_ok hk).toInvW.small hk
  simpa [roomsL] using this
theorem rooms_zero (hk : HouseOk n ways lamps) : (roomsL ways n)[0]? = some 0 := by
  unfold roomsL
  rw [List.getElem?_map, (leastW_ok hk).h0]; rfl
theorem keyR_eq (hk : HouseOk n ways lamps) {f : Int → Int} (ha : a ∈ roomsL ways n) (hb : b ∈ roomsL ways n) : keyR ways f a = keyR ways f b ↔ f a = f b ∧ ∀ d : Int, 0 ≤ d ∧ d < n → f (stepOf ways a d) = f (stepOf ways b d) := by
  have la := row_len hk (rooms_in hk ha)
  have lb := row_len hk (rooms_in hk hb)
  have ga : ∀ d : Nat, d < n → (gt ways a)[d]? = some (stepOf ways a (d : Int)) := fun d hd => row_get (by omega)
  have gb : ∀ d : Nat, d < n → (gt ways b)[d]? = some (stepOf ways b (d : Int)) := fun d hd => row_get (by omega)
  unfold keyR
  constructor
  · intro h
    injection h with h1 h2
    refine ⟨h1, fun d hd => ?_⟩
    have h3 := congrArg (fun l => l[d.toNat]?) h2
    simp only [List.getElem?_map] at h3
    rw [ga d.toNat (by omega), gb d.toNat (by omega), Int.toNat_of_nonneg hd.1] at h3
    exact Option.some.inj h3
  · rintro ⟨h1, h2⟩
    rw [h1]
    congr 1
    refine List.ext_getElem? fun i => ?_
    rw [List.getElem?_map, List.getElem?_map]
    by_cases hi : i < n
    · rw [ga i hi, gb i hi]
      exact congrArg some (h2 i ⟨by omega, by omega⟩)
    · rw [List.getElem?_eq_none (by omega), List.getElem?_eq_none (by omega)]
theorem kf_succ (hk : HouseOk n ways lamps) (ha : a ∈ roomsL ways n) (hb : b ∈ roomsL ways n) : (kfS ways lamps (roomsL ways n) (j + 1)).1 a = (kfS ways lamps (roomsL ways n) (j + 1)).1 b ↔ (kfS ways lamps (roomsL ways n) j).1 a = (kfS ways lamps (roomsL ways n) j).1 b ∧ ∀ d : Int, 0 ≤ d ∧ d < n → (kfS ways lamps (roomsL ways n) j).1 (stepOf ways a d) = (kfS ways lamps (roomsL ways n) j).1 (stepOf ways b d) := by
  rw [← keyR_eq hk ha hb]
  show numOf _ _ = numOf _ _ ↔ _
  exact ⟨fun h => numOf_inj (List.mem_map.mpr ⟨a, ha, rfl⟩) (List.mem_map.mpr ⟨b, hb, rfl⟩) h, fun h => by rw [h]⟩
theorem kf_lamp (hk : HouseOk n ways lamps) (ha : a ∈ roomsL ways n) (hb : b ∈ roomsL ways n) : ∀ {j : Nat}, (kfS ways lamps (roomsL ways n) j).1 a = (kfS ways lamps (roomsL ways n) j).1 b → gt lamps a = gt lamps b
  | 0, h => numOf_inj (List.mem_map.mpr ⟨a, ha, rfl⟩) (List.mem_map.mpr ⟨b, hb, rfl⟩) h
  | j + 1, h => kf_lamp hk ha hb ((kf_succ hk ha hb).mp h).1
theorem alike_step {d x : Int} (h : Alike ways lamps d a b) (hx : 0 ≤ x ∧ x < d) : Alike ways lamps d (stepOf ways a x) (stepOf ways b x) := fun t ht => h (x :: t) fun y hy => by
  rcases List.mem_cons.mp hy with q | q
  · rw [q]; exact hx
  · exact ht y q
theorem kf_alike (hk : HouseOk n ways lamps) : ∀ {j : Nat} {a b : Int}, a ∈ roomsL ways n → b ∈ roomsL ways n → Alike ways lamps n a b → (kfS ways lamps (roomsL ways n) j).1 a = (kfS ways lamps (roomsL ways n) j).1 b
  | 0, a, b, ha, hb, h => by
    have : gt lamps a = gt lamps b := h [] fun x hx => (by cases hx)
    show numOf _ _ = numOf _ _
    rw [this]
  | j + 1, a, b, ha, hb, h => (kf_succ hk ha hb).mpr ⟨kf_alike hk ha hb h, fun d hd => kf_alike hk (rooms_step hk ha hd) (rooms_step hk hb hd) (alike_step h hd)⟩
theorem kf_in {R : List Int} (ha : a ∈ R) : 0 ≤ (kfS ways lamps R j).1 a ∧ (kfS ways lamps R j).1 a < ((kfS ways lamps R j).2 : Int) := by
  cases j with
  | zero => exact numOf_in (List.mem_map.mpr ⟨a, ha, rfl⟩)
  | succ j => exact numOf_in (List.mem_map.mpr ⟨a, ha, rfl⟩)
theorem kf_len {R : List Int} : (kfS ways lamps R j).2 ≤ R.length := by
  cases j with
  | zero => exact Nat.le_trans firsts_len (by simp)
  | succ j => exact Nat.le_trans firsts_len (by simp)
theorem kf_reps {R : List Int} : Reps (kfS ways lamps R j).1 R (repsOf (kfS ways lamps R j).1 R) ∧ (repsOf (kfS ways lamps R j).1 R).length = (kfS ways lamps R j).2 := by
  cases j with
  | zero => exact reps_ok (key := gt lamps) (l := R) (List.prefix_refl _)
  | succ j => exact reps_ok (key := keyR ways (kfS ways lamps R j).1) (l := R) (List.prefix_refl _)
theorem kf_repsW : Reps (fun w => (kfS ways lamps (roomsL ways n) j).1 (walkOf ways 0 w)) (leastW ways n) (repsOf (fun w => (kfS ways lamps (roomsL ways n) j).1 (walkOf ways 0 w)) (leastW ways n)) := by
  cases j with
  | zero =>
    have e : (roomsL ways n).map (gt lamps) = (leastW ways n).map fun w => gt lamps (walkOf ways 0 w) := by unfold roomsL; rw [List.map_map]; rfl
    have := (reps_ok (key := fun w => gt lamps (walkOf ways 0 w)) (l := leastW ways n) (List.prefix_refl _)).1
    rw [← e] at this; exact this
  | succ j =>
    have e : (roomsL ways n).map (keyR ways (kfS ways lamps (roomsL ways n) j).1) = (leastW ways n).map fun w => keyR ways (kfS ways lamps (roomsL ways n) j).1 (walkOf ways 0 w) := by unfold roomsL; rw [List.map_map]; rfl
    have := (reps_ok (key := fun w => keyR ways (kfS ways lamps (roomsL ways n) j).1 (walkOf ways 0 w)) (l := leastW ways n) (List.prefix_refl _)).1
    rw [← e] at this; exact this
theorem kf_pos {R : List Int} (ha : a ∈ R) : 0 < (kfS ways lamps R j).2 := by have := kf_in (ways := ways) (lamps := lamps) (j := j) ha; omega
theorem kindJ_ok {R : List Int} (hl : R.length ≤ 400) (h0 : (0 : Int) ∈ R) : ∀ {f j : Nat}, 401 ≤ f + j → (∀ i, i < j → i + 1 ≤ (kfS ways lamps R i).2) → ¬ prevC ways lamps R (kindJ ways lamps R f j) < (kfS ways lamps R (kindJ ways lamps R f j)).2
  | 0, j, hf, h => by
    have h1 := h 400 (by omega)
    have h2 := kf_len (ways := ways) (lamps := lamps) (R := R) (j := 400)
    omega
  | f + 1, j, hf, h => by
    unfold kindJ
    by_cases q : prevC ways lamps R j < (kfS ways lamps R j).2
    · rw [if_pos q]
      refine kindJ_ok hl h0 (by omega) fun i hi => ?_
      by_cases e : i = j
      · subst e
        unfold prevC at q
        by_cases z : i = 0
        · subst z; have := kf_pos (ways := ways) (lamps := lamps) (j := 0) h0; omega
        · rw [if_neg z] at q
          have := h (i - 1) (by omega)
          omega
      · exact h i (by omega)
    · rw [if_neg q]; exact q
theorem nodup_map_sub {α β : Type} [DecidableEq β] {g : α → β} {l : List α} (h : l.Pairwise fun x y => g x ≠ g y) : (l.map g).Nodup := List.pairwise_map.mpr h
/-- where the number of kinds no longer grows, the kinds stay -/
theorem kf_stay (hk : HouseOk n ways lamps) (hc : (kfS ways lamps (roomsL ways n) (j + 1)).2 ≤ (kfS ways lamps (roomsL ways n) j).2) (ha : a ∈ roomsL ways n) (hb : b ∈ roomsL ways n) (h : (kfS ways lamps (roomsL ways n) j).1 a = (kfS ways lamps (roomsL ways n) j).1 b) : (kfS ways lamps (roomsL ways n) (j + 1)).1 a = (kfS ways lamps (roomsL ways n) (j + 1)).1 b := by
  by_cases e : (kfS ways lamps (roomsL ways n) (j + 1)).1 a = (kfS ways lamps (roomsL ways n) (j + 1)).1 b
  · exact e
  exfalso
  obtain ⟨⟨r1, r2, r3, _, _⟩, r4⟩ := kf_reps (ways := ways) (lamps := lamps) (R := roomsL ways n) (j := j)
  have hfine : ∀ x y, x ∈ roomsL ways n → y ∈ roomsL ways n → (kfS ways lamps (roomsL ways n) (j + 1)).1 x = (kfS ways lamps (roomsL ways n) (j + 1)).1 y → (kfS ways lamps (roomsL ways n) j).1 x = (kfS ways lamps (roomsL ways n) j).1 y := fun x y hx hy q => ((kf_succ hk hx hy).mp q).1
  have hin : ∀ x, x ∈ roomsL ways n → 0 ≤ (kfS ways lamps (roomsL ways n) (j + 1)).1 x ∧ (kfS ways lamps (roomsL ways n) (j + 1)).1 x < ((kfS ways lamps (roomsL ways n) (j + 1)).2 : Int) := fun x hx => kf_in hx
  have hai := (kf_in (ways := ways) (lamps := lamps) (j := j) ha)
  generalize (kfS ways lamps (roomsL ways n) (j + 1)).2 = c1 at *
  generalize (kfS ways lamps (roomsL ways n) j).2 = c0 at *
  generalize (kfS ways lamps (roomsL ways n) (j + 1)).1 = f1 at *
  generalize (kfS ways lamps (roomsL ways n) j).1 = f0 at *
  generalize repsOf f0 (roomsL ways n) = r at *
  have hrp : r.Pairwise fun x y => f0 x ≠ f0 y := List.pairwise_iff_getElem.mpr fun i k hi hk2 hik => by
    rw [r1 i _ (List.getElem?_eq_getElem hi), r1 k _ (List.getElem?_eq_getElem hk2)]; omega
  have hlen : ∀ (l : List Int), l.Pairwise (fun x y => f0 x ≠ f0 y) → l.length ≤ (l.filter fun x => decide (f0 x ≠ f0 a)).length + 1 := by
    intro l
    induction l with
    | nil => intro _; simp
    | cons x l ih =>
      intro hp
      obtain ⟨h1, h2⟩ := List.pairwise_cons.mp hp
      by_cases q : f0 x = f0 a
      · rw [List.filter_cons_of_neg (by simpa using q)]
        have : l.filter (fun x => decide (f0 x ≠ f0 a)) = l := List.filter_eq_self.mpr fun y hy => by
          have := h1 y hy
          rw [q] at this
          simpa using Ne.symm this
        rw [this]; simp
      · rw [List.filter_cons_of_pos (by simpa using q)]
        have := ih h2
        rw [List.length_cons, List.length_cons]; omega
  have hsub : ∀ x ∈ r, x ∈ roomsL ways n := fun x hx => r2.mem hx
  have hl := hlen r hrp
  have key := nodup_sub_length (l := (a :: b :: r.filter fun x => decide (f0 x ≠ f0 a)).map f1) (m := (List.range c1).map fun i : Nat => (i : Int)) (nodup_map_sub ?_) ?_
  · simp only [List.length_map, List.length_cons, List.length_range] at key
    omega
  · refine List.pairwise_cons.mpr ⟨fun y hy => ?_, List.pairwise_cons.mpr ⟨fun y hy => ?_, ?_⟩⟩
    · rcases List.mem_cons.mp hy with q | q
      · rw [q]; exact e
      · obtain ⟨q1, q2⟩ := List.mem_filter.mp q
        intro z
        exact (of_decide_eq_true q2) (hfine y a (hsub y q1) ha z.symm)
    · obtain ⟨q1, q2⟩ := List.mem_filter.mp hy
      intro z
      exact (of_decide_eq_true q2) ((hfine y b (hsub y q1) hb z.symm).trans h.symm)
    · refine List.Pairwise.imp_of_mem (fun {x y} hx hy q z => q (hfine x y (hsub x (List.mem_filter.mp hx).1) (hsub y (List.mem_filter.mp hy).1) z)) (hrp.sublist List.filter_sublist)
  · intro v hv
    obtain ⟨x, hx, rfl⟩ := List.mem_map.mp hv
    have hxr : x ∈ roomsL ways n := by
      rcases List.mem_cons.mp hx with q | q
      · exact q ▸ ha
      · rcases List.mem_cons.mp q with q | q
        · exact q ▸ hb
        · exact hsub x (List.mem_filter.mp q).1
    have := hin x hxr
    exact List.mem_map.mpr ⟨(f1 x).toNat, List.mem_range.mpr (by omega), by omega⟩
/-- what the kinds are -/
structure KindsOk (n : Nat) (ways : List (List Int)) (lamps : List Bool) (f : Int → Int) : Prop where
  reps : Reps (fun w => f (walkOf ways 0 w)) (leastW ways n) (repsOf (fun w => f (walkOf ways 0 w)) (leastW ways n))
  lamp : ∀ a b, a ∈ roomsL ways n → b ∈ roomsL ways n → f a = f b → gt lamps a = gt lamps b
  step : ∀ a b, a ∈ roomsL ways n → b ∈ roomsL ways n → f a = f b → ∀ d : Int, 0 ≤ d ∧ d < n → f (stepOf ways a d) = f (stepOf ways b d)
  alike : ∀ a b, a ∈ roomsL ways n → b ∈ roomsL ways n → Alike ways lamps n a b → f a = f b
theorem kindsF_ok (hk : HouseOk n ways lamps) : KindsOk n ways lamps (kindsF ways lamps (roomsL ways n)) := by
  have h0 : (0 : Int) ∈ roomsL ways n := List.mem_of_getElem? (rooms_zero hk)
  have hl : (roomsL ways n).length ≤ 400 := by have := rooms_len hk; have := hk.2.2.2.1; omega
  have hJ := kindJ_ok (ways := ways) (lamps := lamps) hl h0 (f := 401) (j := 0) (Nat.le_refl _) (fun i hi => by omega)
  unfold kindsF
  generalize kindJ ways lamps (roomsL ways n) 401 0 = J at *
  cases J with
  | zero => unfold prevC at hJ; have := kf_pos (ways := ways) (lamps := lamps) (j := 0) h0; exact absurd this (by simpa using hJ)
  | succ J =>
    have hc : (kfS ways lamps (roomsL ways n) (J + 1)).2 ≤ (kfS ways lamps (roomsL ways n) J).2 := by
      unfold prevC at hJ
      simpa using hJ
    refine ⟨kf_repsW, fun a b ha hb h => kf_lamp hk ha hb h, fun a b ha hb h d hd => ?_, fun a b ha hb h => kf_alike hk ha hb h⟩
    exact kf_stay hk hc (rooms_step hk ha hd) (rooms_step hk hb hd) (((kf_succ hk ha hb).mp h).2 d hd)
end
end Ask
/-! The fewest house: says the same, no two rooms alike, its rooms in order; it is one. -/
namespace Ask
open PySem L2
def fewW (ways : List (List Int)) (f : Int → Int) (R : List Int) : List (List Int) := (repsOf f R).map fun r => (gt ways r).map f
def fewL (lamps : List Bool) (f : Int → Int) (R : List Int) : List Bool := (repsOf f R).map (gt lamps)
/-- words in their order, no two alike as members: one list -/
theorem sorted_one : ∀ {l m : List Wd}, l.Pairwise (fun a b => sltB a b = true) → m.Pairwise (fun a b => sltB a b = true) → (∀ x, x ∈ l ↔ x ∈ m) → l = m
  | [], [], _, _, _ => rfl
  | [], y :: m, _, _, h => absurd ((h y).mpr List.mem_cons_self) (by simp)
  | x :: l, [], _, _, h => absurd ((h x).mp List.mem_cons_self) (by simp)
  | x :: l, y :: m, hl, hm, h => by
    obtain ⟨a1, a2⟩ := List.pairwise_cons.mp hl
    obtain ⟨b1, b2⟩ := List.pairwise_cons.mp hm
    have hxy : x = y := by
      rcases List.mem_cons.mp ((h x).mp List.mem_cons_self) with q | q
      · exact q
      · rcases List.mem_cons.mp ((h y).mpr List.mem_cons_self) with z | z
        · exact z.symm
        · have h1 := b1 x q
          have h2 := a1 y z
          rw [sltB_asymm h1] at h2; cases h2
    subst hxy
    rw [sorted_one a2 b2 fun z => ?_]
    have hn : ∀ {k : List Wd}, (∀ w ∈ k, sltB x w = true) → x ∉ k := fun hk hx => by have := hk x hx; rw [sltB_irr] at this; cases this
    constructor
    · intro hz
      rcases List.mem_cons.mp ((h z).mp (List.mem_cons_of_mem _ hz)) with q | q
      · exact absurd (q ▸ hz) (hn a1)
      · exact q
    · intro hz
      rcases List.mem_cons.mp ((h z).mpr (List.mem_cons_of_mem _ hz)) with q | q
      · exact absurd (q ▸ hz) (hn b1)
      · exact q
section
variable {n : Nat} {ways : List (List Int)} {lamps : List Bool}
/-- least words by what they are -/
structure Least (n : Nat) (c : Wd → Int) (ws : List Wd) : Prop where
  so : ws.Pairwise fun a b => sltB a b = true
  wd : ∀ w ∈ ws, WordOk n w
  nd : ∀ u ∈ ws, ∀ v ∈ ws, c u = c v → u = v
  beh : ∀ v, WordOk n v → ∃ w ∈ ws, c w = c v ∧ (w = v ∨ sltB w v = true)
theorem Least.mem {c : Wd → Int} {ws : List Wd} (h : Least n c ws) {w : Wd} : w ∈ ws ↔ WordOk n w ∧ ∀ v, WordOk n v → c v = c w → w = v ∨ sltB w v = true := by
  constructor
  · intro hw
    refine ⟨h.wd w hw, fun v hv e => ?_⟩
    obtain ⟨u, h1, h2, h3⟩ := h.beh v hv
    rw [h.nd w hw u h1 (e.symm.trans h2.symm)]; exact h3
  · rintro ⟨hw, hl⟩
    obtain ⟨u, h1, h2, h3⟩ := h.beh w hw
    rcases h3 with q | q
    · exact q ▸ h1
    · rcases hl u (h.wd u h1) h2 with z | z
      · rw [z]; exact h1
      · rw [sltB_asymm z] at q; cases q
theorem Least.one {c c' : Wd → Int} {ws vs : List Wd} (h : Least n c ws) (k : Least n c' vs) (e : ∀ u v, WordOk n u → WordOk n v → (c u = c v ↔ c' u = c' v)) : ws = vs := by
  refine sorted_one h.so k.so fun x => ?_
  rw [h.mem, k.mem]
  constructor
  · rintro ⟨a, b⟩
    exact ⟨a, fun v hv q => b v hv ((e v x hv a).mpr q)⟩
  · rintro ⟨a, b⟩
    exact ⟨a, fun v hv q => b v hv ((e v x hv a).mp q)⟩
theorem inj_of_nd {α β : Type} {f : α → β} : ∀ {l : List α}, (l.map f).Nodup → ∀ u ∈ l, ∀ v ∈ l, f u = f v → u = v
  | x :: l, h, u, hu, v, hv, e => by
    rw [List.map_cons] at h
    obtain ⟨h1, h2⟩ := List.nodup_cons.mp h
    rcases List.mem_cons.mp hu with q | q
    · rcases List.mem_cons.mp hv with z | z
      · rw [q, z]
      · exact absurd (List.mem_map.mpr ⟨v, z, by rw [← e, q]⟩) h1
    · rcases List.mem_cons.mp hv with z | z
      · exact absurd (List.mem_map.mpr ⟨u, q, by rw [e, z]⟩) h1
      · exact inj_of_nd h2 u q v z e
theorem leastW_least (hk : HouseOk n ways lamps) : Least n (walkOf ways 0) (leastW ways n) := by
  have L := leastW_ok hk
  exact ⟨L.so, fun w hw => (L.wd w hw).1, inj_of_nd L.nd, fun v hv => least_beh hk hv⟩
end
section
variable {n : Nat} {ways : List (List Int)} {lamps : List Bool} {f : Int → Int}
theorem fewR_words : repsOf f (roomsL ways n) = (repsOf (fun w => f (walkOf ways 0 w)) (leastW ways n)).map (walkOf ways 0) := reps_map
structure FewOk (n : Nat) (ways : List (List Int)) (lamps : List Bool) (W : List (List Int)) (L : List Bool) : Prop where
  ok : HouseOk n W L
  len : W.length ≤ ways.length
  same : ∀ w, WordOk n w → litOf W L 0 w = litOf ways lamps 0 w
  apart : ∀ i j : Int, 0 ≤ i ∧ i < (W.length : Int) → 0 ≤ j ∧ j < (W.length : Int) → i ≠ j → ∃ t, WordOk n t ∧ litOf W L i t ≠ litOf W L j t
  order : (leastW W n).map (walkOf W 0) = (List.range W.length).map fun i : Nat => (i : Int)
theorem few_ok (hk : HouseOk n ways lamps) (K : KindsOk n ways lamps f) : FewOk n ways lamps (fewW ways f (roomsL ways n)) (fewL lamps f (roomsL ways n)) := by
  have hL := leastW_least hk
  have hR := K.reps
  have hrep := fewR_words (n := n) (ways := ways) (f := f)
  generalize hV : repsOf (fun w => f (walkOf ways 0 w)) (leastW ways n) = V at *
  have hVs : ∀ w ∈ V, w ∈ leastW ways n := fun w hw => hR.sub.mem hw
  have hVw : ∀ w ∈ V, WordOk n w := fun w hw => hL.wd w (hVs w hw)
  have hlw : (fewW ways f (roomsL ways n)).length = V.length := by unfold fewW; rw [hrep]; simp
  have hll : (fewL lamps f (roomsL ways n)).length = V.length := by unfold fewL; rw [hrep]; simp
  have hVl : V.length ≤ ways.length := by
    have h1 := hR.sub.length_le
    have h2 := (leastW_ok hk).toInvW.small hk
    omega
  have hf0 : f 0 = 0 := hR.hd [] (leastW_ok hk).h0
  have hin : ∀ r, r ∈ roomsL ways n → 0 ≤ f r ∧ f r < (V.length : Int) := fun r hr => by
    obtain ⟨w, hw, rfl⟩ := rooms_word hr
    exact hR.lt w hw
  -- the room that stands for a kind
  have hst : ∀ r, r ∈ roomsL ways n → ∃ w ∈ V, V[(f r).toNat]? = some w ∧ f (walkOf ways 0 w) = f r := fun r hr => by
    obtain ⟨h1, h2⟩ := hin r hr
    have hg : V[(f r).toNat]? = some (V[(f r).toNat]'(by omega)) := List.getElem?_eq_getElem (by omega)
    refine ⟨_, List.getElem_mem (by omega), hg, ?_⟩
    have := hR.at' _ _ hg
    omega
  have hgW : ∀ r, r ∈ roomsL ways n → ∃ r', r' ∈ roomsL ways n ∧ f r' = f r ∧ gt (fewW ways f (roomsL ways n)) (f r) = (gt ways r').map f ∧ gt (fewL lamps f (roomsL ways n)) (f r) = gt lamps r' := fun r hr => by
    obtain ⟨w, hw, hg, he⟩ := hst r hr
    obtain ⟨h1, h2⟩ := hin r hr
    refine ⟨walkOf ways 0 w, rooms_reach hk (hVw w hw), he, ?_, ?_⟩
    · have : (fewW ways f (roomsL ways n))[(f r).toNat]? = some ((gt ways (walkOf ways 0 w)).map f) := by
        unfold fewW; rw [hrep, List.getElem?_map, List.getElem?_map, hg]; rfl
      have := gt_nat this
      rwa [Int.toNat_of_nonneg h1] at this
    · have : (fewL lamps f (roomsL ways n))[(f r).toNat]? = some (gt lamps (walkOf ways 0 w)) := by
        unfold fewL; rw [hrep, List.getElem?_map, List.getElem?_map, hg]; rfl
      have := gt_nat this
      rwa [Int.toNat_of_nonneg h1] at this
  have hstep : ∀ r, r ∈ roomsL ways n → ∀ d : Int, 0 ≤ d ∧ d < n → stepOf (fewW ways f (roomsL ways n)) (f r) d = f (stepOf ways r d) := fun r hr d hd => by
    obtain ⟨r', h1, h2, h3, _⟩ := hgW r hr
    have hl := row_len hk (rooms_in hk h1)
    unfold stepOf
    rw [h3]
    have hg : (gt ways r')[d.toNat]? = some (stepOf ways r' d) := by
      have := row_get (ways := ways) (r := r') (d := d.toNat) (by omega)
      rwa [Int.toNat_of_nonneg hd.1] at this
    have : ((gt ways r').map f)[d.toNat]? = some (f (stepOf ways r' d)) := by rw [List.getElem?_map, hg]; rfl
    have := gt_nat this
    rw [Int.toNat_of_nonneg hd.1] at this
    rw [this]
    exact K.step r' r h1 hr h2 d hd
  have hlit : ∀ r, r ∈ roomsL ways n → gt (fewL lamps f (roomsL ways n)) (f r) = gt lamps r := fun r hr => by
    obtain ⟨r', h1, h2, _, h4⟩ := hgW r hr
    rw [h4]
    exact K.lamp r' r h1 hr h2
  have hwalk : ∀ w r, r ∈ roomsL ways n → WordOk n w → walkOf (fewW ways f (roomsL ways n)) (f r) w = f (walkOf ways r w) ∧ walkOf ways r w ∈ roomsL ways n := fun w => by
    induction w with
    | nil => intro r hr _; exact ⟨rfl, hr⟩
    | cons d w ih =>
      intro r hr hw
      have hd := hw d List.mem_cons_self
      show walkOf _ (stepOf _ (f r) d) w = f (walkOf ways (stepOf ways r d) w) ∧ walkOf ways (stepOf ways r d) w ∈ _
      rw [hstep r hr d hd]
      exact ih _ (rooms_step hk hr hd) fun x hx => hw x (List.mem_cons_of_mem _ hx)
  have hr0 : (0 : Int) ∈ roomsL ways n := List.mem_of_getElem? (rooms_zero hk)
  have hw0 : ∀ w, WordOk n w → walkOf (fewW ways f (roomsL ways n)) 0 w = f (walkOf ways 0 w) := fun w hw => by
    have := (hwalk w 0 hr0 hw).1
    rwa [hf0] at this
  have hlitw : ∀ w r, r ∈ roomsL ways n → WordOk n w → litOf (fewW ways f (roomsL ways n)) (fewL lamps f (roomsL ways n)) (f r) w = litOf ways lamps r w := fun w r hr hw => by
    obtain ⟨h1, h2⟩ := hwalk w r hr hw
    unfold litOf
    rw [h1, hlit _ h2]
  have hok : HouseOk n (fewW ways f (roomsL ways n)) (fewL lamps f (roomsL ways n)) := by
    refine ⟨hk.1, hk.2.1, ?_, ?_, hll.trans hlw.symm, fun row hrow => ?_⟩
    · rw [hlw]; have := (hin 0 hr0); omega
    · rw [hlw]; have := hk.2.2.2.1; omega
    · unfold fewW at hrow
      rw [hrep] at hrow
      obtain ⟨r, hr, rfl⟩ := List.mem_map.mp hrow
      obtain ⟨w, hw, rfl⟩ := List.mem_map.mp hr
      have hrr := rooms_reach hk (hVw w hw)
      have hl := row_len hk (rooms_in hk hrr)
      refine ⟨by rw [List.length_map]; exact hl, fun x hx => ?_⟩
      obtain ⟨y, hy, rfl⟩ := List.mem_map.mp hx
      obtain ⟨i, hi, rfl⟩ := List.getElem_of_mem hy
      have hg := row_get (ways := ways) (r := walkOf ways 0 w) (d := i) hi
      rw [List.getElem?_eq_getElem hi] at hg
      rw [Option.some.inj hg, hlw]
      exact hin _ (rooms_step hk hrr ⟨by omega, by omega⟩)
  have hkey : ∀ i : Int, 0 ≤ i ∧ i < ((fewW ways f (roomsL ways n)).length : Int) → ∃ r, r ∈ roomsL ways n ∧ f r = i := fun i hi => by
    rw [hlw] at hi
    have hg : V[i.toNat]? = some (V[i.toNat]'(by omega)) := List.getElem?_eq_getElem (by omega)
    refine ⟨walkOf ways 0 (V[i.toNat]'(by omega)), rooms_reach hk (hVw _ (List.getElem_mem (by omega))), ?_⟩
    have := hR.at' _ _ hg
    omega
  refine ⟨hok, by rw [hlw]; exact hVl, fun w hw => ?_, fun i j hi hj hne => ?_, ?_⟩
  · have := hlitw w 0 hr0 hw
    rwa [hf0] at this
  · obtain ⟨a, ha, rfl⟩ := hkey i hi
    obtain ⟨b, hb, rfl⟩ := hkey j hj
    apply Classical.byContradiction
    intro hno
    refine hne (K.alike a b ha hb fun t ht => ?_)
    apply Classical.byContradiction
    intro z
    refine hno ⟨t, ht, ?_⟩
    rw [hlitw t a ha ht, hlitw t b hb ht]; exact z
  · have hVL : Least n (walkOf (fewW ways f (roomsL ways n)) 0) V := by
      refine ⟨hL.so.sublist hR.sub, hVw, fun u hu v hv e => ?_, fun v hv => ?_⟩
      · rw [hw0 u (hVw u hu), hw0 v (hVw v hv)] at e
        obtain ⟨i, hi, rfl⟩ := List.getElem_of_mem hu
        obtain ⟨j, hj, rfl⟩ := List.getElem_of_mem hv
        have h1 := hR.at' i _ (List.getElem?_eq_getElem hi)
        have h2 := hR.at' j _ (List.getElem?_eq_getElem hj)
        have : i = j := by omega
        subst this; rfl
      · obtain ⟨u, h1, h2, h3⟩ := hL.beh v hv
        obtain ⟨i, hi, hu⟩ := List.getElem_of_mem h1
        obtain ⟨i', y, g1, g2, g3, g4⟩ := hR.fst i u (by rw [List.getElem?_eq_getElem hi, hu])
        refine ⟨y, g3, ?_, ?_⟩
        · rw [hw0 y (hVw y g3), hw0 v hv, g4, h2]
        · obtain ⟨hi2, hy⟩ := List.getElem?_eq_some_iff.mp g2
          have hyu : y = u ∨ sltB y u = true := by
            rcases Nat.lt_or_ge i' i with z | z
            · have := List.pairwise_iff_getElem.mp hL.so i' i hi2 hi z
              rw [hy, hu] at this
              exact .inr this
            · have : i' = i := by omega
              subst this
              exact .inl (hy.symm.trans hu)
          rcases hyu with q | q
          · rw [q]; exact h3
          · rcases h3 with z | z
            · exact .inr (z ▸ q)
            · exact .inr (sltB_trans q z)
    rw [(leastW_least hok).one hVL fun u v _ _ => Iff.rfl, hlw]
    refine List.ext_getElem? fun i => ?_
    rw [List.getElem?_map, List.getElem?_map]
    rcases Nat.lt_or_ge i V.length with z | z
    · rw [List.getElem?_eq_getElem z, List.getElem?_range z]
      show some _ = some _
      rw [hw0 _ (hVw _ (List.getElem_mem z))]
      exact congrArg some (hR.at' i _ (List.getElem?_eq_getElem z))
    · rw [List.getElem?_eq_none z, List.getElem?_eq_none (by simpa using z)]; rfl
/-- houses in order with no two rooms alike that say the same are one -/
theorem few_one {W V : List (List Int)} {L M : List Bool} {w1 w2 : List (List Int)} {l1 l2 : List Bool} (a : FewOk n w1 l1 W L) (b : FewOk n w2 l2 V M) (h : ∀ w, WordOk n w → litOf W L 0 w = litOf V M 0 w) : W = V ∧ L = M := by
  have key : ∀ u v, WordOk n u → WordOk n v → (walkOf W 0 u = walkOf W 0 v ↔ walkOf V 0 u = walkOf V 0 v) := by
    intro u v hu hv
    have gen : ∀ {X Y : List (List Int)} {P Q : List Bool} {x1 y1 : List (List Int)} {p1 q1 : List Bool}, FewOk n x1 p1 X P → FewOk n y1 q1 Y Q → (∀ w, WordOk n w → litOf X P 0 w = litOf Y Q 0 w) → walkOf X 0 u = walkOf X 0 v → walkOf Y 0 u = walkOf Y 0 v := by
      intro X Y P Q x1 y1 p1 q1 a b h e
      apply Classical.byContradiction
      intro hne
      obtain ⟨t, ht, hl⟩ := b.apart _ _ (walk_in b.ok (room0 b.ok) hu) (walk_in b.ok (room0 b.ok) hv) hne
      apply hl
      have h1 := h (u ++ t) (hu.app ht)
      have h2 := h (v ++ t) (hv.app ht)
      unfold litOf at h1 h2 ⊢
      rw [walk_app, walk_app] at h1 h2
      rw [← h1, ← h2, e]
    exact ⟨gen a b h, gen b a fun w hw => (h w hw).symm⟩
  have hlw := (leastW_least a.ok).one (leastW_least b.ok) key
  have hlen : W.length = V.length := by
    have h1 := congrArg List.length a.order
    have h2 := congrArg List.length b.order
    rw [List.length_map, List.length_map, List.length_range] at h1 h2
    rw [← h1, ← h2, hlw]
  have word : ∀ i : Nat, i < W.length → ∃ w, WordOk n w ∧ walkOf W 0 w = (i : Int) ∧ walkOf V 0 w = (i : Int) := by
    intro i hi
    have ha := congrArg (fun l => l[i]?) a.order
    have hb := congrArg (fun l => l[i]?) b.order
    simp only [List.getElem?_map] at ha hb
    rw [List.getElem?_range hi] at ha
    rw [List.getElem?_range (by omega)] at hb
    cases hx : (leastW W n)[i]? with
    | none => rw [hx] at ha; cases ha
    | some w =>
      rw [hx] at ha
      rw [← hlw, hx] at hb
      exact ⟨w, ((leastW_ok a.ok).wd w (List.mem_of_getElem? hx)).1, Option.some.inj ha, Option.some.inj hb⟩
  have stp : ∀ (i d : Nat), i < W.length → d < n → stepOf W i d = stepOf V i d := by
    intro i d hi hd
    obtain ⟨w, hw, h1, h2⟩ := word i hi
    have hwd : WordOk n (w ++ [(d : Int)]) := fun x hx => by
      rcases List.mem_append.mp hx with q | q
      · exact hw x q
      · rw [List.mem_singleton.mp q]; omega
    have hin := walk_in a.ok (room0 a.ok) hwd
    obtain ⟨u, hu, g1, g2⟩ := word (walkOf W 0 (w ++ [(d : Int)])).toNat (by omega)
    rw [Int.toNat_of_nonneg hin.1] at g1 g2
    have := (key u _ hu hwd).mp g1
    rw [← h1, ← walkOf_snoc, h1, ← h2, ← walkOf_snoc, ← this, g2]
  refine ⟨List.ext_getElem? fun i => ?_, List.ext_getElem? fun i => ?_⟩
  · rcases Nat.lt_or_ge i W.length with z | z
    · have z2 : i < V.length := by omega
      have r1 := row_len a.ok (r := (i : Int)) ⟨by omega, by omega⟩
      have r2 := row_len b.ok (r := (i : Int)) ⟨by omega, by omega⟩
      have e1 : W[i]? = some (gt W (i : Int)) := by have := get_gt (l := W) (k := (i : Int)) (by omega) (by omega); rwa [Int.toNat_natCast] at this
      have e2 : V[i]? = some (gt V (i : Int)) := by have := get_gt (l := V) (k := (i : Int)) (by omega) (by omega); rwa [Int.toNat_natCast] at this
      rw [e1, e2]
      congr 1
      refine List.ext_getElem? fun d => ?_
      rcases Nat.lt_or_ge d n with y | y
      · rw [row_get (by omega), row_get (by omega), stp i d z y]
      · rw [List.getElem?_eq_none (by omega), List.getElem?_eq_none (by omega)]
    · rw [List.getElem?_eq_none z, List.getElem?_eq_none (by omega)]
  · have l1 := a.ok.2.2.2.2.1
    have l2 := b.ok.2.2.2.2.1
    rcases Nat.lt_or_ge i W.length with z | z
    · obtain ⟨w, hw, h1, h2⟩ := word i z
      have e1 : L[i]? = some (gt L (i : Int)) := by have := get_gt (l := L) (k := (i : Int)) (by omega) (by omega); rwa [Int.toNat_natCast] at this
      have e2 : M[i]? = some (gt M (i : Int)) := by have := get_gt (l := M) (k := (i : Int)) (by omega) (by omega); rwa [Int.toNat_natCast] at this
      have := h w hw
      unfold litOf at this
      rw [h1, h2] at this
      rw [e1, e2, this]
    · rw [List.getElem?_eq_none (by omega), List.getElem?_eq_none (by omega)]
end
end Ask
/-! Dicts whose keys are truth values; the greatest value of a dict; tuples put together; list(range(..)). -/
namespace Ask
open PySem PySem.Spec PyProof.Rows L2

/-! ### {}, d[k], k not in d, d[k] = v, len(d), the keys of whatever form -/
theorem pairs_any {P P' : Program} {w w' : World} : ∀ {es : List DictEntry} {vs : List (Bool × Value)}, Pairs (PpSet.boolK P w) es vs → Pairs (PpSet.boolK P' w') es vs
  | _, _, .nil => .nil
  | _, _, .cons h1 h2 t => .cons h1 h2 (pairs_any t)
theorem dictB_any {P P' : Program} {w w' : World} {h : Heap} {a : Addr} {vs : List (Bool × Value)} (dd : h.DictOf (PpSet.boolK P w) a vs) : h.DictOf (PpSet.boolK P' w') a vs := by
  obtain ⟨o, es, ep, h1, h2, h3, h4, h5, h6⟩ := dd
  exact ⟨o, es, ep, h1, h2, h3, h4, pairs_any h5, h6⟩
theorem db_mk {P P0 : Program} {w w0 : World} {H : Hp} {h : Heap} {a : Addr} {ws : List (Bool × V)} {vs : List (Bool × Value)} (hz : ws.length ≤ sizeLine) (hd : (a == sysModules) = false) (kv : KV ws vs) (dd : h.DictOf (PpSet.boolK P0 w0) a vs) : ObjOk P w H h a (dBo a ws) := by
  refine ⟨⟨hz, hd, vs, kv, fun P' w' => dictB_any dd⟩, ?_, fun h1 h2 q st => ?_⟩
  · obtain ⟨o, _, _, ho, _⟩ := dd; exact ⟨o, ho⟩
  · obtain ⟨z1, z2, us, k1, d1⟩ := q
    refine ⟨z1, z2, us, k1, fun P' w' => ?_⟩
    obtain ⟨o, es, ep, ho, r⟩ := d1 P' w'
    exact ⟨o, es, ep, st o ho, r⟩
def DGetX (H : Hp) (a : Addr) (y : V) (r : Option V) : Prop := DGet H a y r ∨ ∃ ws b, H a = some (dBo a ws) ∧ y = .bl b ∧ r = valV ws b
def DPutX (H : Hp) (a : Addr) (y v : V) (H' : Hp) : Prop := DPut H a y v H' ∨ ∃ ws b, H a = some (dBo a ws) ∧ y = .bl b ∧ ws.length < sizeLine ∧ H' = L2.upd H a (dBo a (putK ws b v))
section
variable {X : Cx} {pins : List (Addr × Obj)} {σ : L2.St} {H : Hp} {s : Shared} {a : Addr} {y v : V} {u r : Value} {o : Option V} {A : Around} {E : Value → Shared → Prop}
theorem db_at {ws : List (Bool × V)} (I : Inv X pins σ H s) (e : H a = some (dBo a ws)) : ws.length ≤ sizeLine ∧ (a == sysModules) = false ∧ ∃ vs, KV ws vs ∧ s.heap.DictOf (PpSet.boolK X.prog X.w) a vs := by
  obtain ⟨⟨z1, z2, us, k1, d1⟩, _⟩ := (show ObjOk X.prog X.w H s.heap a (dBo a ws) from I.hok a _ e)
  exact ⟨z1, z2, us, k1, d1 X.prog X.w⟩
theorem isB_of {b : Bool} (r : RelV (.bl b) u) : (PpSet.boolK X.prog X.w).is b u = true := by
  rw [show u = Value.bool b from r]; exact PpSet.boolK_is _ _ b
theorem dx_type (I : Inv X pins σ H s) (g : DGetX H a y o) : s.TypeIs (.ref a) "dict" := by
  rcases g with g | ⟨ws, b, e, _, _⟩
  · exact dict_typeIs I g
  · obtain ⟨_, _, vs, _, dd⟩ := db_at I e; exact dd.typeIs
theorem dx_get {Q : Value → Shared → Prop} (hu : A.units + 1 < cLine) (I : Inv X pins σ H s) (g : DGetX H a y (some v)) (ry : RelV y u) (h : ∀ w' s', Inv X pins σ H s' → RelV v w' → Q w' s') : wpAny (model X.prog X.w) A (getItem (.ref a) u) Q E s := by
  rcases g with g | ⟨ws, b, e, rfl, l⟩
  · exact d_getItem hu I g ry h
  · obtain ⟨_, _, vs, rel, dd⟩ := db_at I e
    obtain ⟨w', hw, rw'⟩ := RelO.some_of (v := v) (o := valueAt vs b) (by rw [l]; exact rel.val b)
    exact wpAny_getItem_of (isB_of ry) dd.mapOf hw (h w' _ (I.tok _) rw')
theorem dx_nin {Q : Value → Shared → Prop} (hu : A.units + 1 < cLine) (I : Inv X pins σ H s) (g : DGetX H a y o) (ry : RelV y u) (h : ∀ s', Inv X pins σ H s' → Q (.bool (!o.isSome)) s') : wpAny (model X.prog X.w) A (compareOp .NotIn u (.ref a)) Q E s := by
  rcases g with g | ⟨ws, b, e, rfl, l⟩
  · exact d_notIn hu I g ry h
  · obtain ⟨_, hsm, vs, rel, dd⟩ := db_at I e
    refine wpAny_notIn_of (isB_of ry) hsm dd.mapOf ?_
    rw [← (rel.val b).isSome_eq, ← l]
    exact h _ (I.tok _)
theorem dx_put {H' : Hp} {Q : Unit → Shared → Prop} (hu : A.units + 1 < cLine) (I : Inv X pins σ H s) (g : DPutX H a y v H') (ry : RelV y u) (rv : RelV v r) (h : ∀ s', Inv X pins σ H' s' → Q () s') : wpAny (model X.prog X.w) A (setItem (.ref a) u r) Q E s := by
  rcases g with g | ⟨ws, b, e, rfl, l, rfl⟩
  · exact d_setItem hu I g ry rv h
  · obtain ⟨z, hsm, vs, rel, dd⟩ := db_at I e
    have hvz : vs.length ≤ sizeLine := by rw [← rel.length]; exact z
    have hl : (putK ws b v).length ≤ sizeLine := by have := length_putK ws b v; omega
    refine wpAny_setItem_pairs (hsz := hvz) (isB_of ry) dd fun h' dd' hs => h _ ?_
    have hq : ∃ q, h'.get? a = some q := by obtain ⟨q, _, _, hq, _⟩ := dd'; exact ⟨q, hq⟩
    exact d_write I (by rw [e]; exact True.intro) hs hq (db_mk hl hsm (rel.put b rv) dd')
end
def tDGetX (td ty : TE) : TE := fun σ H Q => td σ H fun x H1 => ty σ H1 fun y H2 => ∃ a v, x = .ref a ∧ DGetX H2 a y (some v) ∧ Q v H2
def tDNinX (ty td : TE) : TE := fun σ H Q => ty σ H fun y H1 => td σ H1 fun x H2 => ∃ a o, x = .ref a ∧ DGetX H2 a y o ∧ Q (.bl (!o.isSome)) H2
def sDPutX (td ty tv : TE) : TS := fun D σ H => tv σ H fun v H1 => td σ H1 fun x H2 => ty σ H2 fun y H3 => ∃ a H4, x = .ref a ∧ DPutX H3 a y v H4 ∧ D.nx σ H4
def tDNewX : TE := fun _ H Q => (∀ p, H p = none → Q (.ref p) (L2.upd H p (.dT []))) ∨ ∀ p, H p = none → Q (.ref p) (L2.upd H p (dBo p []))
def rLenX : List V → Hp → VK → Prop := fun xs H Q => rLenT xs H Q ∨ ∃ a ws, xs = [.ref a] ∧ H a = some (dBo a ws) ∧ Q (.int ((ws.length : Nat) : Int)) H
section
variable {X : Cx} {ob ix value : Expr} {pos pos' : Pos} {td ty tv : TE}
theorem pe_dgetX (hu : X.A.units + 1 < cLine) (ho : PE X ob td) (hi : PE X ix ty) (hs : NoSl ix) : PE X (.Subscript ob ix pos) (tDGetX td ty) := by
  refine ⟨fun pins s σ H Q I h => ?_⟩
  refine subD_of PySem.F.slot_dict_getitem.lookup hs (thn (ho.run pins s σ H _ I h) fun u s1 ⟨x, H1, I1, rx, q1⟩ => thn (hi.run pins s1 σ H1 _ I1 q1) fun iv s2 ⟨y, H2, I2, ry, a, v, ex, g, q2⟩ => ?_)
  cases ex
  cases (show u = Value.ref a from rx)
  exact ⟨dx_type I2 g, dx_get hu I2 g ry fun w' s3 I3 rw' => ⟨v, H2, I3, rw', q2⟩⟩
theorem pc_dninX (hu : X.A.units + 1 < cLine) (hi : PE X ix ty) (ho : PE X ob td) : PC X .NotIn ix ob (tDNinX ty td) := by
  refine ⟨fun pins s σ H Q I h => ?_⟩
  refine thn (hi.run pins s σ H _ I h) fun iv s1 ⟨y, H1, I1, ry, q1⟩ => thn (ho.run pins s1 σ H1 _ I1 q1) fun u s2 ⟨x, H2, I2, rx, a, ov, ex, g, q2⟩ => ?_
  cases ex
  cases (show u = Value.ref a from rx)
  exact dx_nin hu I2 g ry fun s3 I3 => ⟨.bl (!ov.isSome), H2, I3, rfl, q2⟩
theorem ps_dputX (hu : X.A.units + 1 < cLine) (ho : PE X ob td) (hi : PE X ix ty) (hv : PE X value tv) (hs : swapsWith value (some (.Subscript ob ix pos')) pos.line X.env = pure false) : PS X (.Assign [.Subscript ob ix pos'] value pos) (sDPutX td ty tv) := by
  refine ⟨fun pins s σ H D I h => ?_⟩
  refine wpAny_Assign_Subscript (thn (hv.run pins s σ H _ I h) fun r s1 ⟨v, H1, I1, rv, q1⟩ => thn (ho.run pins s1 σ H1 _ I1 q1) fun u s2 ⟨x, H2, I2, rx, q2⟩ => thn (hi.run pins s2 σ H2 _ I2 q2) fun iv s3 ⟨y, H3, I3, ry, a, H4, ex, g, q3⟩ => ?_) hs
  cases ex
  cases (show u = Value.ref a from rx)
  exact dx_put hu I3 g ry rv fun s4 I4 => ⟨σ, H4, I4, q3⟩
theorem pe_dnewX : PE X (.Dict [] [] pos) tDNewX := ⟨fun pins s σ H Q I h => by
  rcases h with h | h
  · exact (pe_dnewT (X := X) (pos := pos)).run pins s σ H Q I h
  · refine wpAny_Dict_empty ⟨.ref s.heap.objs.size, _, I.laid (a := s.heap.objs.size) (o := dBo s.heap.objs.size []) (t' := s.toks) (fun _ _ q => Heap.get?_push_of_some _ q) (Nat.le_refl _) ?_, rfl, h _ (I.hok.fresh (Nat.le_refl _))⟩
    exact db_mk (P0 := X.prog) (w0 := X.w) (Nat.zero_le _) (beq_eq_false_iff_ne.mpr (Ne.symm (Nat.ne_of_lt I.big))) .nil (Heap.DictOf.new s.heap)⟩
theorem ck_lenX : CallR X (.builtin "len") rLenX := by
  intro pins s σ H xs us Q I r h
  rcases h with h | ⟨a, ws, rfl, ha, q⟩
  · exact call_len_dT pins s σ H xs us Q I r h
  · obtain ⟨u, rfl, ru⟩ := vals1 r
    cases ru
    obtain ⟨z, hsm, vs, rel, dd⟩ := db_at I ha
    refine call_len_dict hsm dd (by rw [← rel.length]; rw [sizeLine_eq] at z; omega) ?_
    rw [← rel.length]
    exact ⟨.int ((ws.length : Nat) : Int), H, I.tok _, ⟨_, rfl⟩, q⟩
end
/-! ### as plain data -/
section
variable {α : Type} {f : α → Dt}
def entB (f : α → Dt) (m : List (Bool × α)) : List (Bool × Dt) := m.map fun e => (e.1, f e.2)
theorem entB_len {m : List (Bool × α)} : (entB f m).length = m.length := by simp [entB]
theorem getK_entB {m : List (Bool × α)} {k : Bool} : getK (entB f m) k = (lk m k).map f := by
  induction m with
  | nil => rfl
  | cons e m ih =>
    unfold lk getK entB at *
    rw [List.map_cons, List.find?_cons, List.find?_cons]
    by_cases h : e.1 = k
    · simp [h]
    · simpa [h] using ih
theorem putK_entB {m : List (Bool × α)} {k : Bool} {a : α} : putKD (entB f m) k (f a) = entB f (ins m k a) := by
  unfold ins putKD
  have e : (getK (entB f m) k).isSome = (getK m k).isSome := by rw [getK_entB, Option.isSome_map]; rfl
  rw [e]
  by_cases h : (getK m k).isSome = true
  · rw [if_pos h, if_pos h]
    unfold entB
    rw [List.map_map, List.map_map]
    refine List.map_congr_left fun x _ => ?_
    simp only [Function.comp]
    split <;> simp_all
  · rw [if_neg h, if_neg h]
    unfold entB
    simp
end
def DGetXD (M : Ms) (x y : Dt) (Ψ : Option Dt → Prop) : Prop := DGetD M x y Ψ ∨ ∃ a kvs b, x = .ref a ∧ y = .bl b ∧ Ent.one a (.dB kvs) ∈ M ∧ Ψ (getK kvs b)
def DPutXD (M : Ms) (x y v : Dt) (Ψ : Ms → Prop) : Prop := ∃ a M', x = .ref a ∧ ((∃ kvs l ds, Upd M a (.dT kvs) (.dT (putKD kvs (kT l) v)) M' ∧ kvs.length < 16777216 ∧ y = .tup ds ∧ ds = l.map Dt.int) ∨ ∃ kvs b, Upd M a (.dB kvs) (.dB (putKD kvs b v)) M' ∧ kvs.length < 16777216 ∧ y = .bl b) ∧ Ψ M'
section
variable {K : PySem.W.Frag} {B : Fr} {s : Sl} {M M' : Ms} {Φ : Dt → Ms → Prop} {td ty tv te : TE} {G H : Hp}
theorem dgetX_of {x y : Dt} {v w : V} {Ψ : Option Dt → Prop} (L : Lay K B G M H) (h : DGetXD M x y Ψ) (rx : Rep K G v x) (ry : Rep K G w y) : ∃ a o od, v = .ref a ∧ DGetX H a w o ∧ Ψ od ∧ (∀ d, od = some d → ∃ u, o = some u ∧ Rep K G u d) ∧ (od = none → o = none) := by
  rcases h with h | ⟨a, kvs, b, rfl, rfl, hm, hp⟩
  · obtain ⟨a, o, od, h1, h2, h3⟩ := dget_of L h rx ry
    exact ⟨a, o, od, h1, .inl h2, h3⟩
  · obtain ⟨ws, e, r⟩ := L.ats _ hm
    exact ⟨a, _, _, rx.refOf, .inr ⟨ws, b, e, ry.blOf, rfl⟩, hp, fun d hd => r.some hd, fun hd => r.none hd⟩
instance s_dgetX : Stp (EvW K B (tDGetX td ty) s M Φ) (EvW K B td s M fun x M1 => EvW K B ty s M1 fun y M2 => DGetXD M2 x y fun o => ∃ d, o = some d ∧ Φ d M2) := ⟨fun h => fun G H σ Q L S q =>
  h G H σ _ L S fun v x M1 G1 H1 L1 e1 r1 h1 => h1 G1 H1 σ _ L1 (S.mono e1) fun w y M2 G2 H2 L2 e2 r2 h2 => by
    obtain ⟨a, o, od, rfl, g, ⟨d, hd, k⟩, hs, _⟩ := dgetX_of L2 h2 (r1.mono e2) r2
    obtain ⟨u, rfl, ru⟩ := hs d hd
    exact ⟨a, u, rfl, g, q u d M2 G2 H2 L2 (e1.trans e2) ru k⟩⟩
instance s_dninX : Stp (EvW K B (tDNinX ty td) s M Φ) (EvW K B ty s M fun y M1 => EvW K B td s M1 fun x M2 => DGetXD M2 x y fun o => Φ (.bl (!o.isSome)) M2) := ⟨fun h => fun G H σ Q L S q =>
  h G H σ _ L S fun w y M1 G1 H1 L1 e1 r1 h1 => h1 G1 H1 σ _ L1 (S.mono e1) fun v x M2 G2 H2 L2 e2 r2 h2 => by
    obtain ⟨a, o, od, rfl, g, k, hs, hn⟩ := dgetX_of L2 h2 r2 (r1.mono e2)
    have e : o.isSome = od.isSome := by
      cases od with
      | none => rw [hn rfl]; rfl
      | some d => obtain ⟨u, hu, _⟩ := hs d rfl; rw [hu]; rfl
    exact ⟨a, o, rfl, g, q _ _ M2 G2 H2 L2 (e1.trans e2) (by rw [e]; exact .bl _) k⟩⟩
instance s_dputX {nx bk ct : Sl → Ms → Prop} {rt : Dt → Ms → Prop} : Stp (WPs K B (sDPutX td ty tv) ⟨nx, rt, bk, ct⟩ s M) (EvW K B tv s M fun v M1 => EvW K B td s M1 fun x M2 => EvW K B ty s M2 fun y M3 => DPutXD M3 x y v fun M4 => nx s M4) := ⟨fun h => fun D G H σ ok L S =>
  h G H σ _ L S fun v dv M1 G1 H1 L1 e1 r1 h1 => h1 G1 H1 σ _ L1 (S.mono e1) fun x dx M2 G2 H2 L2 e2 r2 h2 => h2 G2 H2 σ _ L2 (S.mono (e1.trans e2)) fun y dy M3 G3 H3 L3 e3 r3 h3 => by
    obtain ⟨a, M4, rfl, h3, k⟩ := h3
    have rv := (r1.mono e2).mono e3
    have ex := (e1.trans e2).trans e3
    rcases h3 with ⟨kvs, l, ds, u, hl, rfl, rfl⟩ | ⟨kvs, b, u, hl, rfl⟩
    · obtain ⟨Mr, p1, p2⟩ := u.perm
      obtain ⟨ws, e, r⟩ := (L3.perm p1).ats _ List.mem_cons_self
      obtain ⟨b, us, rfl, eb, tb⟩ := r3.tupOf
      have eu := tb.ints
      subst eu
      exact ⟨a, _, (r2.mono e3).refOf, .inl (DPut.t (k := kT l) e (by rw [← tup_keys]; exact L3.sub _ _ eb) (sl_lt (by rw [r.len]; exact hl))), ok.1 s M4 G3 _ σ k (L3.upd u ⟨_, upd_same, r.put rv⟩) ex (S.mono ex)⟩
    · obtain ⟨Mr, p1, p2⟩ := u.perm
      obtain ⟨ws, e, r⟩ := (L3.perm p1).ats _ List.mem_cons_self
      exact ⟨a, _, (r2.mono e3).refOf, .inr ⟨ws, b, e, r3.blOf, sl_lt (by rw [r.len]; exact hl), rfl⟩, ok.1 s M4 G3 _ σ k (L3.upd u ⟨_, upd_same, r.put rv⟩) ex (S.mono ex)⟩⟩
theorem e_dnewXT (h : ∀ p, p ∉ B.T → Φ (.ref p) (.one p (.dT []) :: M)) : EvW K B tDNewX s M Φ := fun G H σ Q L S q => .inl fun p hp =>
  q _ _ _ _ _ (L.laidM (c := .dT []) hp ⟨[], upd_same, .nil⟩) (Ex.refl G) (.ref p) (h p fun t => L.freshM hp (L.tin p t))
theorem e_dnewXB (h : ∀ p, p ∉ B.T → Φ (.ref p) (.one p (.dB []) :: M)) : EvW K B tDNewX s M Φ := fun G H σ Q L S q => .inr fun p hp =>
  q _ _ _ _ _ (L.laidM (c := .dB []) hp ⟨[], upd_same, .nil⟩) (Ex.refl G) (.ref p) (h p fun t => L.freshM hp (L.tin p t))
section
variable {α : Type} {f : α → Dt} {m : List (List Int × α)} {mb : List (Bool × α)} {a : Addr} {l : List Int} {ds : List Dt} {b : Bool} {Ψ : Option Dt → Prop} {Θ : Ms → Prop} {d : Dt} {v : α}
instance s_dgetXT [h : FindC M a (.dT (entT f m))] [k : IntsC ds l] : Stp (DGetXD M (.ref a) (.tup ds) Ψ) (Ψ ((lk m l).map f)) := ⟨fun q => .inl (s_dgetT.imp q)⟩
instance s_dgetXB [h : FindC M a (.dB (entB f mb))] : Stp (DGetXD M (.ref a) (.bl b) Ψ) (Ψ ((lk mb b).map f)) := ⟨fun q => .inr ⟨a, _, b, rfl, rfl, h.h, by rw [getK_entB]; exact q⟩⟩
instance s_dputXT [h : FindC M a (.dT (entT f m))] [k : IntsC ds l] [e : EncV f d v] [u : PutC M a (.dT (entT f m)) (.dT (entT f (ins m l v))) M'] : Stp (DPutXD M (.ref a) (.tup ds) d Θ) (Pre (m.length < 16777216) (Θ M')) := ⟨fun q => ⟨a, M', rfl, .inl ⟨entT f m, l, ds, by rw [e.h, putK_entT]; exact u.h, by rw [entT_len]; exact q.1, rfl, k.h⟩, q.2⟩⟩
instance s_dputXB [h : FindC M a (.dB (entB f mb))] [e : EncV f d v] [u : PutC M a (.dB (entB f mb)) (.dB (entB f (ins mb b v))) M'] : Stp (DPutXD M (.ref a) (.bl b) d Θ) (Pre (mb.length < 16777216) (Θ M')) := ⟨fun q => ⟨a, M', rfl, .inr ⟨entB f mb, b, by rw [e.h, putK_entB]; exact u.h, by rw [entB_len]; exact q.1, rfl⟩, q.2⟩⟩
instance s_lenXT [h : FindC M a (.dT (entT f m))] : Stp (OpN K B rLenX [.ref a] M Φ) (Φ (.int (m.length : Nat)) M) := ⟨fun k G H vs Q L rs q => by
  cases rs with | cons r1 r0 =>
    cases r0
    obtain ⟨ws, e, r⟩ := L.ats _ h.h
    exact .inl ⟨a, ws, by rw [r1.refOf], e, by rw [r.len, entT_len]; exact q _ _ M G H L (Ex.refl G) (.int _) k⟩⟩
instance s_lenXB [h : FindC M a (.dB (entB f mb))] : Stp (OpN K B rLenX [.ref a] M Φ) (Φ (.int (mb.length : Nat)) M) := ⟨fun k G H vs Q L rs q => by
  cases rs with | cons r1 r0 =>
    cases r0
    obtain ⟨ws, e, r⟩ := L.ats _ h.h
    exact .inr ⟨a, ws, by rw [r1.refOf], e, by rw [r.len, entB_len]; exact q _ _ M G H L (Ex.refl G) (.int _) k⟩⟩
end
end
end Ask
/-! The greatest value of a dict; tuples put together; list(range(..)); functions that read what is owned and make something new. -/
namespace Ask
open PySem PySem.Spec PyProof.Rows L2
def tDValsP (t : TE) : TE := fun σ H Q => t σ H fun x H1 => ∃ a kvs, x = .ref a ∧ H1 a = some (.dK kvs) ∧ ∀ p, H1 p = none → Q (.ref p) (L2.upd H1 p (viewO "dict_values" p a))
theorem pe_dvalsP {X : Cx} {e : Expr} {td : TE} {apos cpos : Pos} (he : PE X e td) (hb : attributeBase e "values" X.env (eval e X.env) = eval e X.env := by rfl) (hl : (apos.endLine == cpos.line) = true := by rfl) :
    PE X (.Call (.Attribute e "values" apos) [] [] cpos) (tDValsP td) := by
  refine ⟨fun pins s σ H Q I h => ?_⟩
  refine wpAny_Call_method (T := "dict") (id := "dict.values") hb rfl hl F.plainAttrs_dict F.slot_dict_values F.type_dict_values (thn (he.run pins s σ H _ I h) fun u s1 ⟨x, H1, I1, rx, a, kvs, ex, hd, q⟩ => ?_)
  cases ex
  cases (show u = Value.ref a from rx)
  obtain ⟨z, hsm, vs, rel, dd⟩ := dk_of I1.hok hd
  refine ⟨dd.typeIs, dd.mapOf.noDict, ?_⟩
  show wpAny _ _ (callWith cpos (.builtin "dict.values") [.ref a] [] []) _ X.xe s1
  refine method_meetsIn F.slot_dict_values F.entry_dict_values rfl (PySem.evalArgs_none ⟨rfl, dd.typeIs, F.args_dict_values_1 _, _, meets_dict_values (mixKind X.prog X.w) a hsm, ⟨vs, dd⟩, ?_⟩)
  exact ⟨.ref s1.heap.objs.size, _, I1.laid (t' := s1.toks) (fun b o q => Heap.get?_push_of_some _ q) (Nat.le_refl _) (viewO_ok (Heap.get?_push_size _ rfl)), rfl, q _ (I1.hok.fresh (Nat.le_refl _))⟩
def rMaxP : List V → Hp → VK → Prop := fun xs H Q => ∃ (p a : Addr) (kvs : List (Key × V)) (ns : List Int), xs = [.ref p] ∧ H p = some (viewO "dict_values" p a) ∧ H a = some (.dK kvs) ∧ kvs.map Prod.snd = ns.map V.int ∧ ns ≠ [] ∧ ∀ m, m ∈ ns → (∀ y, y ∈ ns → y ≤ m) → Q (.int m) H
theorem pairs_get {P : Program} {w : World} {vs : List (Key × Value)} {es : List DictEntry} (h : Pairs (mixKind P w) es vs) : ∀ {i : Nat} {e : DictEntry} {kv : Key × Value}, es[i]? = some e → vs[i]? = some kv → e.val = kv.2 := by
  induction h with
  | nil => intro i e kv h1; simp at h1
  | cons h1 h2 _ ih =>
    intro i e kv q1 q2
    cases i with
    | zero => simp at q1 q2; rw [← q1, ← q2]; exact h2
    | succ i => exact ih (by simpa using q1) (by simpa using q2)
theorem kv_val : ∀ {kvs : List (Key × V)} {vs : List (Key × Value)} {ns : List Int} {i : Nat} {kv : Key × Value}, KV kvs vs → kvs.map Prod.snd = ns.map V.int → vs[i]? = some kv → ∃ t, kv.2 = .int (ns.getD i 0) t := by
  intro kvs vs ns i kv r
  unfold KV at r
  induction r generalizing ns i with
  | nil => intro _ h; simp at h
  | @cons p q ps qs h t ih =>
    intro hn hv
    cases ns with
    | nil => simp at hn
    | cons n ns =>
      rw [List.map_cons, List.map_cons] at hn
      injection hn with h1 h2
      cases i with
      | zero =>
        simp at hv
        subst hv
        have hr := h.2
        rw [h1] at hr
        obtain ⟨tk, e⟩ := (show ∃ t, q.2 = Value.int n t from hr)
        exact ⟨tk, by simpa using e⟩
      | succ i =>
        obtain ⟨tk, e⟩ := ih h2 (by simpa using hv)
        exact ⟨tk, by simpa using e⟩
theorem ck_maxP {X : Cx} (hc : X.calm = true) : CallR X (.builtin "max") rMaxP := by
  intro pins s σ H xs us Q I rx h
  obtain ⟨p, a, kvs, ns, rfl, hp, hd, hns, hne, q⟩ := h
  rw [Vals.ref1 rx]
  obtain ⟨z, hsm, vs, rel, dd⟩ := dk_of I.hok hd
  have hview := (show ObjOk X.prog X.w H s.heap p (viewO "dict_values" p a) from I.hok p _ hp).1
  obtain ⟨o, es, ep, ho, hex, hdat, hkeys, hprs, hnd⟩ := dd
  have hlen : es.size = ns.length := by
    have e1 := hprs.length
    have e2 := rel.length
    have e3 := congrArg List.length hns
    rw [List.length_map, List.length_map] at e3
    rw [Array.length_toList] at e1
    omega
  have hn0 : 0 < ns.length := List.length_pos_iff.mpr hne
  have hval : ∀ (i : Nat) (e : DictEntry), es[i]? = some e → ∃ t, e.val = .int (ns.getD i 0) t := fun i e he => by
    have hi : i < vs.length := by
      have := hprs.length
      rw [Array.length_toList] at this
      rw [← this]
      exact (Array.getElem?_eq_some_iff.mp he).1
    have hv := List.getElem?_eq_getElem hi
    rw [pairs_get hprs (by rw [Array.getElem?_toList]; exact he) hv]
    exact kv_val rel hns hv
  have hA : a < s.heap.objs.size := Heap.lt_size ho
  refine call_max_walk (DSub.iter_vals hview ho hdat ?_)
  refine ⟨s.heap.objs.size, [s.heap.objs.size, a], [s.heap.objs.size], es.size, fun i v => ∃ t, v = .int (ns.getD i 0) t, _, fun i j => decide (ns.getD i 0 > ns.getD j 0), rfl,
    DSub.walksVal (a := a) (show X.A.in1.handled = none from I.ok.hd hc) (Nat.ne_of_lt hA) hdat hval, ⟨Heap.get?_push_size _ rfl, Heap.get?_push_of_some _ ho⟩, fun b hb => ?_, by omega,
    CmpOf.ints_gt (fun i => ns.getD i 0) (fun i v z => z), fun v h' tk hv' hk => ?_⟩
  · have hsz : (s.heap.push (DVw.valOb a 0 es.size ep)).objs.size = s.heap.objs.size + 1 := size_push' ..
    show b < (s.heap.push (DVw.valOb a 0 es.size ep)).objs.size
    rw [hsz]
    rcases List.mem_cons.mp hb with e | e
    · rw [e]; exact Nat.lt_succ_self _
    · rw [List.mem_singleton.mp e]; exact Nat.lt_succ_of_lt hA
  · obtain ⟨t, rfl⟩ := hv'
    obtain ⟨g1, g2⟩ := argBest_gt (fun i => ns.getD i 0) (es.size - 1)
    have k1 : argBest (fun i j => decide (ns.getD i 0 > ns.getD j 0)) (es.size - 1) ≤ es.size - 1 := g1
    have k2 : ∀ j, j ≤ es.size - 1 → ns.getD j 0 ≤ ns.getD (argBest (fun i j => decide (ns.getD i 0 > ns.getD j 0)) (es.size - 1)) 0 := g2
    have keep : ∀ b o, s.heap.get? b = some o → h'.get? b = some o := fun b o e => hk b o (fun z => by
      rw [List.mem_singleton.mp z] at e
      exact absurd (Heap.lt_size e) (Nat.lt_irrefl _)) (Heap.get?_push_of_some _ e)
    refine ⟨.int _, H, I.kept (t' := tk) keep, ⟨t, rfl⟩, q _ (PySem.getD_mem (by omega)) fun y hy => ?_⟩
    obtain ⟨j, hj, rfl⟩ := List.mem_iff_getElem.mp hy
    have := k2 j (by omega)
    rwa [show ns.getD j 0 = ns[j] by rw [List.getD_eq_getElem?_getD, List.getElem?_eq_getElem hj]; rfl] at this
theorem ok_catT {X : Cx} {K : PySem.W.Frag} (hk : X.K = K) : OpR X (binaryOp .Add) (rCatT K) := hk ▸ op_catT
section
variable {K : PySem.W.Frag} {B : Fr} {s : Sl} {M M' : Ms} {Φ : Dt → Ms → Prop} {td te : TE} {W : WX} {t : TA} {n : Nat}
def MaxD (M : Ms) (x : Dt) (Ψ : Int → Prop) : Prop := ∃ a m, x = .ref a ∧ Ent.one a (.dK (entI Dt.int m)) ∈ M ∧ m ≠ [] ∧ ∀ k, k ∈ m.map Prod.snd → (∀ y, y ∈ m.map Prod.snd → y ≤ k) → Ψ k
theorem rep_snd {κ : Type} {G : Hp} : ∀ {ws : List (κ × V)} {m : List (κ × Dt)} {ns : List Int}, RepKV K G ws m → m.map Prod.snd = ns.map Dt.int → ws.map Prod.snd = ns.map V.int
  | _, _, ns, .nil, h => by
    cases ns with
    | nil => rfl
    | cons _ _ => simp at h
  | _, _, ns, .cons r t, h => by
    cases ns with
    | nil => simp at h
    | cons n ns =>
      rw [List.map_cons, List.map_cons] at h
      injection h with h1 h2
      rw [List.map_cons, List.map_cons, rep_snd t h2]
      have h1' : _ = Dt.int n := h1
      subst h1'
      rw [r.intOf]
instance s_maxV : Stp (EvW K B (tCB rMaxP (tCons (tDValsP td) tNil)) s M Φ) (EvW K B td s M fun x M1 => MaxD M1 x fun k => Φ (.int k) M1) := ⟨fun h => fun G H σ Q L S q =>
  h G H σ _ L S fun v x M1 G1 H1 L1 e1 r1 h1 => by
    obtain ⟨a, m, rfl, hm, hne, k⟩ := h1
    obtain ⟨ws, e, r⟩ := L1.ats _ hm
    refine ⟨a, ws, r1.refOf, e, fun p hp => ?_⟩
    have hap : a ≠ p := fun z => by rw [z] at e; rw [hp] at e; cases e
    refine ⟨p, a, ws, m.map Prod.snd, rfl, upd_same, by rw [upd_ne hap]; exact e, rep_snd r (by unfold entI; rw [List.map_map, List.map_map]; rfl), by simpa using hne, fun k' h1 h2 => ?_⟩
    exact q _ _ M1 _ _ (L1.laid hp) (e1.trans (Ex.new (L1.freshG hp))) (.int k') (k k' h1 h2)⟩
instance s_maxD {a : Addr} {m : List (Int × Int)} {Ψ : Int → Prop} [h : FindC M a (.dK (entI Dt.int m))] : Stp (MaxD M (.ref a) Ψ) (Pre (m ≠ []) (∀ k, k ∈ m.map Prod.snd → (∀ y, y ∈ m.map Prod.snd → y ≤ k) → Ψ k)) := ⟨fun k => ⟨a, m, rfl, h.h, k.1, k.2⟩⟩
instance s_catT {d : Dt} {ds es : List Dt} : Stp (Op2 K B (rCatT K) (.tup (d :: ds)) (.tup es) M Φ) (Pre ((d :: ds).length + es.length < 16777216) (Φ (.tup (d :: ds ++ es)) M)) := ⟨fun k => fun G H v w Q L r1 r2 q => by
  obtain ⟨a, us, rfl, ea, ta⟩ := r1.tupOf
  obtain ⟨b, ws, rfl, eb, tb⟩ := r2.tupOf
  have l1 := ta.len
  have l2 := tb.len
  refine ⟨a, b, us, ws, rfl, rfl, SqT.of (L.sub _ _ ea), SqT.of (L.sub _ _ eb), fun z => by rw [z] at l1; simp at l1, sl_of (by rw [l1, l2]; exact k.1), fun z => ?_, fun z p hp => ?_⟩
  · have : es = [] := by rw [z] at l2; exact List.length_eq_zero_iff.mp l2.symm
    subst this
    refine q _ _ M G H L (Ex.refl G) ?_ k.2
    rw [List.append_nil]
    exact .tup ea ta
  · exact q _ _ M _ _ (L.laid hp) (Ex.new (L.freshG hp)) (.tup upd_same ((ta.append tb).mono (Ex.new (L.freshG hp)))) k.2⟩
theorem rep_rg {G : Hp} {n : Int} : RepAll K G (rgV 0 n) (rngI n) := by
  unfold rgV rngI
  rw [Int.sub_zero]
  generalize List.range n.toNat = l
  induction l with
  | nil => exact .nil
  | cons i l ih =>
    rw [List.map_cons, List.map_cons]
    refine .cons ?_ ih
    rw [Int.zero_add]
    exact .int _
instance s_lstRg : Stp (EvW K B (tLstRg (tRg1 te)) s M Φ) (EvW K B te s M fun x M1 => ∃ n : Int, x = .int n ∧ Pre (0 ≤ n ∧ n ≤ 16777216) (Φ (.lst (rngI n)) M1)) := ⟨fun h => fun G H σ Q L S q =>
  h G H σ _ L S fun v x M1 G1 H1 L1 e1 r1 h1 => by
    obtain ⟨n, rfl, hn, k⟩ := h1
    exact ⟨n, r1.intOf, RgOk.of_le (by omega) hn.2 (by omega) hn.1, fun p hp => q _ _ M1 _ _ (L1.laid hp) (e1.trans (Ex.new (L1.freshG hp))) (.lst upd_same rep_rg) k⟩⟩
/-- reads what is owned; what it makes is new -/
def fnGM (R : Ms → List Dt → (Dt → Ms → Prop) → Prop) : FT := fun ds M Φ _ => ∃ post, R M ds post ∧ ∀ d Mn, post d Mn → Φ d (Mn ++ M)
instance s_callGM {R : Ms → List Dt → (Dt → Ms → Prop) → Prop} : Stp (EvW K B (tOwn (tCallS (spG K n (fnGM R)) (WE W) t)) s M Φ) (EvA K B t s M fun ds M1 => CallV (R M1) n ds fun post => OwnG B Φ post M1) := ⟨fun h G H σ Q L S q =>
  h G H σ _ L S fun vs ds M1 G1 H1 L1 e1 r ⟨hn, post, hr, k⟩ => by
    have Lx : Lay K B G1 (M1 ++ []) H1 := by rw [List.append_nil]; exact L1
    refine ⟨r.len.trans hn, G1, M1, ds, fun d M' => ∃ Mn, post d Mn ∧ M' = Mn ++ M1, fun _ _ => False, Lx.enter, r, ⟨post, hr, fun d Mn z => ⟨Mn, z, rfl⟩⟩, fun v d M' G' H' L' r' kk => ?_, fun _ _ _ _ _ k => k.elim⟩
    obtain ⟨Mn, hp, rfl⟩ := kk
    have Lb : Lay K B G' (Mn ++ M1) H' := by
      have := Lay.back (Ma := M1) Lx L'
      rwa [List.append_nil] at this
    have nd := Lb.nd
    rw [fpM_app] at nd
    have fresh : ∀ a ∈ fpM Mn, a ∉ B.T := fun a ha z => (List.nodup_append.mp nd).2.2 a ha a (L1.tin a z) rfl
    exact q _ _ _ G' H' Lb (e1.trans (L'.grown L1.sub)) r' (k d Mn hp fresh)⟩
theorem enterGM {R : Ms → List Dt → (Dt → Ms → Prop) → Prop} {vs : List V} {H : Hp} {Q : VK} {E : XK} {ts : TS} {N : List Str} (h : spG K n (fnGM R) vs H Q E)
    (k : ∀ (B : Fr) (M : Ms) (ds : List Dt) (post : Dt → Ms → Prop), B.T = fpM M → R M ds post → XOkC K B (WF E) XF → WPs K B ts { nx := fun _ M' => False, rt := fun d M' => ∃ Mn Mr, post d Mn ∧ M'.Perm ((Mn ++ M) ++ Mr) } (startD N.length ds) M) :
    ts { nx := fun _ H' => Q .non H', rt := Q } (L2.start N vs) H := by
  obtain ⟨hl, G, M, ds, Φ, Ξ, L, rp, ⟨post, hr, k1⟩, kQ, kE⟩ := h
  refine k ⟨G, H, fpM M⟩ M ds post rfl hr ⟨fun C s M' G' H' σ L' _ z => z.elim⟩ _ G H _ ⟨fun s M' G' H' σ z L' _ _ => z.elim, fun v d M' G' H' z L' _ r' => ?_, fun _ _ _ _ _ x => x.elim, fun _ _ _ _ _ x => x.elim⟩ L (slots_start rp)
  obtain ⟨Mn, Mr, hp, hq⟩ := z
  exact kQ v _ _ G' H' ((L'.perm hq).forgetsT fun a h => by rw [fpM_app]; exact List.mem_append_right _ h) r' (k1 d Mn hp)
end
end Ask
/-! What numbered and kinds make. -/
namespace Ask
open PySem L2
abbrev dTup (l : List Int) : Dt := .tup (l.map Dt.int)
def listF (R : List Int) (f : Int → Int) : List (Int × Int) := R.map fun r => (r, f r)
def postN (R : List Int) (f : Int → Int) : Dt → Ms → Prop := fun d M => ∃ p, d = .ref p ∧ M = [.one p (.dK (entI Dt.int (listF R f)))]
theorem lk_mapF {α : Type} {R : List Int} {f : Int → α} {r : Int} : lk (R.map fun r => (r, f r)) r = if r ∈ R then some (f r) else none := by
  induction R with
  | nil => rfl
  | cons e l ih =>
    rw [List.map_cons, lk_cons, ih]
    by_cases q : e = r
    · rw [if_pos q, if_pos (by simp [q]), q]
    · rw [if_neg q]
      by_cases m : r ∈ l
      · rw [if_pos m, if_pos (List.mem_cons_of_mem _ m)]
      · rw [if_neg m, if_neg (fun z => (List.mem_cons.mp z).elim (fun e' => q e'.symm) m)]
theorem lk_listF {R : List Int} {f : Int → Int} {r : Int} (h : r ∈ R) : lk (listF R f) r = some (f r) := by unfold listF; rw [lk_mapF, if_pos h]
theorem take_new {R : List Int} (hn : R.Nodup) {i : Nat} {r : Int} (h : R[i]? = some r) : r ∉ R.take i := fun hm => by
  obtain ⟨j, hj, e⟩ := List.getElem_of_mem hm
  rw [List.length_take] at hj
  rw [List.getElem_take] at e
  obtain ⟨hi, e2⟩ := List.getElem?_eq_some_iff.mp h
  exact List.pairwise_iff_getElem.mp hn j i (by omega) hi (by omega) (e.trans e2.symm)
theorem ins_mapF {α : Type} {R : List Int} (hn : R.Nodup) {f : Int → α} {i : Nat} {r : Int} (h : R[i]? = some r) : ins ((R.take i).map fun r => (r, f r)) r (f r) = (R.take (i + 1)).map fun r => (r, f r) := by
  rw [ins_new (by rw [lk_mapF, if_neg (take_new hn h)]), take_snoc h, List.map_append]; rfl
theorem listF_max {ways : List (List Int)} {lamps : List Bool} {n j : Nat} (hk : HouseOk n ways lamps) {k : Int} (h1 : k ∈ (listF (roomsL ways n) (kfS ways lamps (roomsL ways n) j).1).map Prod.snd) (h2 : ∀ y, y ∈ (listF (roomsL ways n) (kfS ways lamps (roomsL ways n) j).1).map Prod.snd → y ≤ k) : k = ((kfS ways lamps (roomsL ways n) j).2 : Int) - 1 := by
  unfold listF at h1 h2
  rw [List.map_map] at h1 h2
  obtain ⟨r, hr, rfl⟩ := List.mem_map.mp h1
  have a := kf_in (ways := ways) (lamps := lamps) (j := j) hr
  obtain ⟨⟨r1, r2, _, _, _⟩, r4⟩ := kf_reps (ways := ways) (lamps := lamps) (R := roomsL ways n) (j := j)
  have hg := List.getElem?_eq_getElem (l := repsOf (kfS ways lamps (roomsL ways n) j).1 (roomsL ways n)) (i := (kfS ways lamps (roomsL ways n) j).2 - 1) (by omega)
  have hm := List.getElem_mem (l := repsOf (kfS ways lamps (roomsL ways n) j).1 (roomsL ways n)) (n := (kfS ways lamps (roomsL ways n) j).2 - 1) (by omega)
  have he := r1 _ _ hg
  have := h2 _ (List.mem_map.mpr ⟨_, r2.mem hm, rfl⟩)
  simp only [Function.comp] at this a ⊢
  omega
theorem rooms_row {ways : List (List Int)} {lamps : List Bool} {n : Nat} (hk : HouseOk n ways lamps) {r x : Int} (hr : r ∈ roomsL ways n) (hx : x ∈ gt ways r) : x ∈ roomsL ways n := by
  obtain ⟨i, hi, rfl⟩ := List.getElem_of_mem hx
  have hl := row_len hk (rooms_in hk hr)
  have hg := row_get (ways := ways) (r := r) (d := i) hi
  rw [List.getElem?_eq_getElem hi] at hg
  rw [Option.some.inj hg]
  exact rooms_step hk hr ⟨by omega, by omega⟩
section
variable {K : PySem.W.Frag} {B : Fr} {s : Sl} {M : Ms} {P : Post} {ts : TS}
theorem w_drop1 {p : Addr} {c : Cell} (hp : p ∉ B.T) (k : WPs K B ts P s M) : WPs K B ts P s (.one p c :: M) := w_lay (fun G H L => L.forget hp) k
theorem w_drop2 {e : Ent} {p q : Addr} {c c' : Cell} (hp : p ∉ B.T) (hq : q ∉ B.T) (k : WPs K B ts P s (e :: M)) : WPs K B ts P s (e :: .one p c :: .one q c' :: M) :=
  w_lay (fun G H L => (Lay.forget ((L.perm ((List.Perm.swap _ _ _).trans ((List.Perm.swap _ _ _).cons _))).forget hp) hq)) k
end
inductive R_numbered : Ms → List Dt → (Dt → Ms → Prop) → Prop
  | bools {M : Ms} {kd : Addr} {rooms : List Int} {m : List (Int × Bool)} {key : Int → Bool} : (Ent.one kd (.dK (entI Dt.bl m)) ∈ M ∧ rooms.Nodup ∧ rooms.length ≤ 400 ∧ ∀ r ∈ rooms, lk m r = some (key r)) → R_numbered M [dInts rooms, .ref kd] (postN rooms fun r => numOf (rooms.map key) (key r))
  | tups {M : Ms} {kd : Addr} {rooms : List Int} {m : List (Int × List Int)} {key : Int → List Int} : (Ent.one kd (.dK (entI dTup m)) ∈ M ∧ rooms.Nodup ∧ rooms.length ≤ 400 ∧ ∀ r ∈ rooms, lk m r = some (key r)) → R_numbered M [dInts rooms, .ref kd] (postN rooms fun r => numOf (rooms.map key) (key r))
theorem num_step {κ : Type} [DecidableEq κ] {rooms : List Int} {key : Int → κ} {i : Nat} {r : Int} (h : rooms[i]? = some r) : firstsOf ((rooms.take (i + 1)).map key) = addF (firstsOf ((rooms.take i).map key)) (key r) ∧ numOf (rooms.map key) (key r) = (ixO (addF (firstsOf ((rooms.take i).map key)) (key r)) (key r) : Int) := by
  have e : firstsOf ((rooms.take (i + 1)).map key) = addF (firstsOf ((rooms.take i).map key)) (key r) := by rw [take_snoc h, List.map_append, List.map_cons, List.map_nil, firsts_succ]
  refine ⟨e, ?_⟩
  have p : firstsOf ((rooms.take (i + 1)).map key) <+: firstsOf (rooms.map key) := by
    have := firsts_pre (a := (rooms.take (i + 1)).map key) (b := (rooms.drop (i + 1)).map key)
    rwa [← List.map_append, List.take_append_drop] at this
  rw [e] at p
  unfold numOf
  rw [ixO_pre addF_self p]
end Ask
/-! for over range(a, b); a row's item changed. -/
namespace Ask
open PySem L2
section
variable {K : PySem.W.Frag} {B : Fr} {s : Sl} {M : Ms} {t : TA} {g : TG} {tb : TS} {nx bk ct : Sl → Ms → Prop} {rt : Dt → Ms → Prop}
instance s_forR2 : Stp (WPs K B (tFor (iRng2 t) g tb) ⟨nx, rt, bk, ct⟩ s M) (EvA K B t s M fun xs M1 => ∃ a b : Int, xs = [.int a, .int b] ∧ Pre (-1000000000 < a ∧ a < 1000000000 ∧ -1000000000 < b ∧ b < 1000000000) (ForD K B ((List.range (b - a).toNat).map fun i : Nat => Dt.int (a + (i : Int))) g tb ⟨nx, rt, bk, ct⟩ s M1)) := ⟨fun h => fun D G H σ ok L S =>
  h G H σ _ L S fun vs xs M1 G1 H1 L1 e1 r1 h' => by
    obtain ⟨a, b, rfl, ⟨h1, h2, h3, h4⟩, I, h0, hs, hd⟩ := h'
    have ev : vs = [V.int a, V.int b] := by
      cases r1 with | cons x y => cases y with | cons z w => cases w; rw [x.intOf, z.intOf]
    subst ev
    have ok1 := ok.mono e1
    have hl : ((List.range (b - a).toNat).map fun i : Nat => Dt.int (a + (i : Int))).length = (b - a).toNat := by simp
    refine ⟨a, b, rfl, ⟨by omega, by omega, by omega, by omega⟩, for_range (lo := a) (n := (b - a).toNat) (fun i => Pvs K B G1 (I i)) ⟨s, M1, G1, L1, Ex.refl _, S.mono e1, h0⟩ (fun i σ2 H2 hi p => ?_) fun σ2 H2 p => ?_⟩
    · obtain ⟨s2, M2, G2, L2, x2, S2, i2⟩ := p
      exact hs i (.int (a + (i : Int))) s2 M2 (by rw [List.getElem?_map, List.getElem?_range hi]; rfl) i2 G2 _ σ2 _ _ L2 S2 (.int _) fun s3 M3 G3 H3 σ3 L3 e3 S3 k => k _ G3 H3 σ3 (ends_in ok1 (x2.trans e3)) L3 S3
    · obtain ⟨s2, M2, G2, L2, x2, S2, i2⟩ := p
      exact ok1.1 s2 M2 G2 H2 σ2 (hd s2 M2 (by rw [hl]; exact i2)) L2 x2 S2⟩
instance s_ex_rng2 {x y : Int} {P : Int → Int → Prop} : Stp (∃ a b : Int, [Dt.int x, Dt.int y] = [Dt.int a, Dt.int b] ∧ P a b) (P x y) := ⟨fun k => ⟨x, y, rfl, k⟩⟩
end
theorem house_put {doors : Int} {ways : List (List Int)} {lamps : List Bool} (h : HouseOk doors ways lamps) {k door v : Int} (hk : 0 ≤ k ∧ k < (ways.length : Int)) (hv : 0 ≤ v ∧ v < (ways.length : Int)) : HouseOk doors (ways.set k.toNat ((gt ways k).set door.toNat v)) lamps := by
  obtain ⟨a1, a2, a3, a4, a5, a6⟩ := h
  refine ⟨a1, a2, by rw [List.length_set]; exact a3, by rw [List.length_set]; exact a4, by rw [List.length_set]; exact a5, fun row hrow => ?_⟩
  rw [List.length_set]
  rcases List.mem_or_eq_of_mem_set hrow with q | q
  · exact a6 row q
  · rw [q]
    obtain ⟨b1, b2⟩ := a6 _ (gt_mem hk.1 hk.2)
    refine ⟨by rw [List.length_set]; exact b1, fun x hx => ?_⟩
    rcases List.mem_or_eq_of_mem_set hx with z | z
    · exact b2 x z
    · rw [z]; exact hv
theorem house_lamp {doors : Int} {ways : List (List Int)} {lamps : List Bool} (h : HouseOk doors ways lamps) {k : Nat} {v : Bool} : HouseOk doors ways (lamps.set k v) := by
  obtain ⟨a1, a2, a3, a4, a5, a6⟩ := h
  exact ⟨a1, a2, a3, a4, by rw [List.length_set]; exact a5, a6⟩
theorem gt_setSame {α : Type} [Inhabited α] {l : List α} {k : Int} {v : α} (h : 0 ≤ k ∧ k < (l.length : Int)) : gt (l.set k.toNat v) k = v := by
  have : (l.set k.toNat v)[k.toNat]? = some v := by rw [List.getElem?_set_self (by omega)]
  have := gt_nat this
  rwa [Int.toNat_of_nonneg h.1] at this
theorem part_none_of {d : Int} {w1 w2 : List (List Int)} {l1 l2 : List Bool} {left right : Int} (k1 : HouseOk d w1 l1) (k2 : HouseOk d w2 l2) (hl : 0 ≤ left ∧ left < (w1.length : Int)) (hr : 0 ≤ right ∧ right < (w2.length : Int)) (h : ∀ w, WordOk d w → litOf w1 l1 left w = litOf w2 l2 right w) : partOf w1 w2 l1 left l2 right (gt w1 0).length = none := by
  cases e : partOf w1 w2 l1 left l2 right (gt w1 0).length with
  | none => rfl
  | some w =>
    obtain ⟨a, b, _⟩ := part_some k1 k2 hl hr e
    exact absurd (h w a) b
theorem row_put {ways : List (List Int)} {k : Int} {r : List Int} : (ways.map fun r => r.map Dt.int).set k.toNat (r.map Dt.int) = (ways.set k.toNat r).map fun r => r.map Dt.int := by rw [List.map_set]
end Ask
/-! Lists of lists over a range; a row that is put into its place; houses with twins. -/
namespace Ask
open PySem L2
section
variable {K : PySem.W.Frag} {B : Fr} {s : Sl} {M M1 : Ms} {te : TE} {ta : TA} {Φ : Dt → Ms → Prop} {j : Nat} {vs : List Nat}
/-- what a list of new lists over a range asks for -/
def LmD (K : PySem.W.Frag) (B : Fr) (te : TE) (s : Sl) (vs : List Nat) (j : Nat) (n : Int) (M1 : Ms) (fin : List (List Dt) → Prop) : Prop :=
  ∃ g : Nat → List Dt, j ∈ vs ∧ n < 16777216 ∧ (∀ (i : Nat) p acc Mx, (i : Int) < n → p ∉ B.T → EvW K B te ((wipeS s vs).set j (some (.int (i : Int)))) (.one p (.lst acc) :: Mx) fun e M3 => ∃ q, q ∉ B.T ∧ e = .ref q ∧ M3 = .one q (.lst (g i)) :: .one p (.lst acc) :: Mx) ∧ fin ((List.range n.toNat).map g)
theorem e_lmR (h : EvA K B ta s M fun xs M1 => ∃ n : Int, xs = [.int n] ∧ Pre (-1000000000 < n) (LmD K B te s vs j n M1 fun rows => OwnB B Φ rows M1)) :
    EvW K B (tLc (iRng1 ta) (gName j) tYes te vs) s M Φ := fun G H σ Q L S q =>
  h G H σ _ L S fun vs' x M1 G1 H1 L1 e1 r1 h' => by
    obtain ⟨n, rfl, h0, g, hj, hz, ht, hd⟩ := h'
    have ev : vs' = [V.int n] := by
      cases r1 with | cons a b => cases b; rw [a.intOf]
    subst ev
    have S1 := S.mono e1
    refine ⟨n, rfl, by omega, by omega, fun D hD => ?_⟩
    have hT : D ∉ B.T := fun z => L1.freshM hD (L1.tin D z)
    let I : Nat → Hp → Prop := fun i H => ∃ ps G2, ps.length = i ∧ (∀ q ∈ ps, q ∉ B.T) ∧ Lay K B G2 (.one D (.lst (refs ps)) :: .many ps ((List.range i).map g) :: M1) H ∧ Ex G1 G2
    refine lc_range (lo := 0) (n := n.toNat) I ⟨[], G1, rfl, by simp, ?_, Ex.refl _⟩ (fun i H2 hi c => ?_) fun H2 c => ?_
    · exact L1.block0.laidM (c := .lst []) hD ⟨[], upd_same, .nil⟩
    · obtain ⟨ps, G2, hp, hps, L2, x2⟩ := c
      have e0 : (0 : Int) + (i : Int) = (i : Int) := Int.zero_add _
      rw [e0]
      refine ⟨wipe_back σ hj _, ?_⟩
      change te _ _ _
      refine ht i D (refs ps) _ (by omega) hT G2 H2 _ _ L2 (((S1.mono x2).wipe vs).set j (.int _)) fun y3 d3 M3 G3 H3 L3 e3 r3 k3 => ?_
      obtain ⟨q3, hq3, rfl, rfl⟩ := k3
      obtain ⟨ws, hw, tw⟩ := L3.ats (.one D (.lst (refs ps))) (by simp)
      refine ⟨ws, hw, sl_lt (by rw [tw.len]; simp; omega), ps ++ [q3], G3, by simp [hp], fun q hq => ?_, ?_, x2.trans e3⟩
      · rcases List.mem_append.mp hq with z | z
        · exact hps q z
        · rw [List.mem_singleton.mp z]; exact hq3
      · have La := L3.perm (List.Perm.swap _ _ _)
        have Lb := La.change (o := .lst (ws ++ [y3])) (c' := .lst (refs (ps ++ [q3]))) ⟨_, upd_same, by rw [refs, List.map_append]; exact tw.append (.one r3)⟩
        have Ld := (Lb.perm (List.Perm.trans (List.Perm.swap _ _ _) ((List.Perm.swap _ _ _).cons _)))
        rw [List.range_succ, List.map_append]
        exact (Lay.merge Ld).perm (List.Perm.swap _ _ _)
    · obtain ⟨ps, G2, hp, hps, L2, x2⟩ := c
      exact q _ _ _ G2 H2 L2 (e1.trans x2) (.ref D) (hd D ps hT hps (by simp [hp]))
instance s_lmR : Stp (EvW K B (tMany (tLc (iRng1 ta) (gName j) tYes te vs)) s M Φ) (EvA K B ta s M fun xs M1 => ∃ n : Int, xs = [.int n] ∧ Pre (-1000000000 < n) (LmD K B te s vs j n M1 fun rows => OwnB B Φ rows M1)) := ⟨e_lmR⟩
/-- a row of a block is put out for a new list -/
theorem Lay.swapRow {G H : Hp} {ps : List Addr} {rows : List (List Dt)} {q : Addr} {r : List Dt} {i : Nat} (hi : i < ps.length) (hps : ∀ a ∈ ps, a ∉ B.T) (L : Lay K B G (.one q (.lst r) :: .many ps rows :: M) H) : Lay K B G (.many (ps.set i q) (rows.set i r) :: M) H := by
  have hl := (L.ats (.many ps rows) (by simp)).1
  have hq := L.ats (.one q (.lst r)) (by simp)
  have hin : ∀ a, a ∈ fpM (.many (ps.set i q) (rows.set i r) :: M) → a ∈ fpM (.one q (.lst r) :: .many ps rows :: M) := fun a ha => by
    simp only [fpM_cons, Ent.fp, List.mem_append] at ha ⊢
    rcases ha with ha | ha
    · rcases List.mem_or_eq_of_mem_set ha with z | z
      · exact .inr (.inl z)
      · exact .inl (by simp [z])
    · exact .inr (.inr ha)
  refine ⟨L.sub, ?_, fun a ha => L.free a (hin a ha), fun e he => ?_, L.keep, L.gfix, fun a ha => L.new a (hin a ha), fun a ha => ?_⟩
  · have nd := L.nd
    simp only [fpM_cons, Ent.fp] at nd ⊢
    have h1 : ([q] ++ (ps ++ fpM M)).Nodup := nd
    have hqn : q ∉ ps ++ fpM M := (List.nodup_cons.mp h1).1
    have hpm := (List.nodup_cons.mp h1).2
    have hsub : (ps.set i q ++ fpM M).Perm (q :: (ps.eraseIdx i ++ fpM M)) := by
      have : (ps.set i q).Perm (q :: ps.eraseIdx i) := by
        clear hl hin hqn hpm h1 nd hps L hq
        induction ps generalizing i with
        | nil => simp at hi
        | cons p ps ih =>
          cases i with
          | zero => exact List.Perm.refl _
          | succ i => exact ((ih (by simpa using hi)).cons p).trans (List.Perm.swap _ _ _)
      exact this.append_right _
    refine hsub.nodup_iff.mpr (List.nodup_cons.mpr ⟨fun z => hqn ?_, hpm.sublist ((List.eraseIdx_sublist ps i).append (List.Sublist.refl _))⟩)
    rcases List.mem_append.mp z with z | z
    · exact List.mem_append_left _ ((List.eraseIdx_sublist ps i).mem z)
    · exact List.mem_append_right _ z
  · rcases List.mem_cons.mp he with rfl | he
    · refine ⟨by simp [hl], fun k a ds ha hr => ?_⟩
      by_cases hk : i = k
      · subst hk
        rw [List.getElem?_set_self hi] at ha
        rw [List.getElem?_set_self (by omega)] at hr
        cases ha; cases hr
        exact hq
      · rw [List.getElem?_set_ne hk] at ha hr
        exact (L.ats (.many ps rows) (by simp)).2 k a ds ha hr
    · exact L.ats e (by simp [he])
  · have hm := L.tin a ha
    simp only [fpM_cons, Ent.fp, List.mem_append] at hm ⊢
    rcases hm with z | z | z
    · rw [List.mem_singleton.mp z]; exact .inl (List.mem_iff_getElem.mpr ⟨i, by rw [List.length_set]; exact hi, by simp⟩)
    · exact absurd ha (hps a z)
    · exact .inr z
theorem lay_put {x y : Ent} {ps : List Addr} {rows : List (List Dt)} {q : Addr} {r : List Dt} {i : Nat} (hi : i < ps.length) (hps : ∀ a ∈ ps, a ∉ B.T) : ∀ G H, Lay K B G (.one q (.lst r) :: x :: y :: .many ps rows :: M) H → Lay K B G (x :: y :: .many (ps.set i q) (rows.set i r) :: M) H := fun G H L =>
  (Lay.swapRow hi hps (L.perm ((List.perm_middle (a := .many ps rows) (l₁ := [x, y]) (l₂ := M)).cons _))).perm (List.perm_middle (a := .many (ps.set i q) (rows.set i r)) (l₁ := [x, y]) (l₂ := M)).symm
end
/-! ### houses that say the same by a map of their rooms -/
structure Hom (doors : Int) (ways : List (List Int)) (lamps : List Bool) (φ : Int → Int) (W : List (List Int)) (L : List Bool) : Prop where
  ok : HouseOk doors W L
  zero : φ 0 = 0
  into : ∀ r, 0 ≤ r ∧ r < (W.length : Int) → 0 ≤ φ r ∧ φ r < (ways.length : Int)
  lamp : ∀ r, 0 ≤ r ∧ r < (W.length : Int) → gt L r = gt lamps (φ r)
  step : ∀ r d, 0 ≤ r ∧ r < (W.length : Int) → 0 ≤ d ∧ d < doors → φ (stepOf W r d) = stepOf ways (φ r) d
section
variable {doors : Int} {ways W : List (List Int)} {lamps L : List Bool} {φ : Int → Int}
theorem Hom.walk (h : Hom doors ways lamps φ W L) : ∀ {w : List Int} {r : Int}, 0 ≤ r ∧ r < (W.length : Int) → WordOk doors w → φ (walkOf W r w) = walkOf ways (φ r) w
  | [], r, hr, _ => rfl
  | d :: w, r, hr, hw => by
    have hd := hw d (by simp)
    show φ (walkOf W (stepOf W r d) w) = walkOf ways (stepOf ways (φ r) d) w
    rw [← h.step r d hr hd, Hom.walk h (step_in h.ok hr hd) fun x hx => hw x (by simp [hx])]
theorem Hom.same (h : Hom doors ways lamps φ W L) {w : List Int} (hw : WordOk doors w) : litOf W L 0 w = litOf ways lamps 0 w := by
  have h0 := room0 h.ok
  have h1 := walk_in h.ok h0 hw
  unfold litOf
  rw [h.lamp _ h1, h.walk h0 hw, h.zero]
theorem turnWs_get {b k : Int} (h : 0 ≤ k ∧ k < (ways.length : Int)) : gt (turnWs ways b ways.length) (plI ways.length b k) = (gt ways k).map (plI ways.length b) := by
  obtain ⟨j, rfl⟩ : ∃ j : Nat, k = j := ⟨k.toNat, by omega⟩
  have := putAll_get (l := List.replicate ways.length ([] : List Int)) (v := fun k : Nat => (gt ways (k : Int)).map (plI ways.length b)) (pl := plN ways.length b) (n := ways.length) (fun a b h1 h2 => plN_inj h1 h2) (fun a ha => by rw [List.length_replicate]; exact plN_lt ha) (Nat.le_refl _) (show j < ways.length by omega)
  unfold gt turnWs
  rw [List.getD_eq_getElem?_getD]
  show ((putAll _ _ _ _)[plN ways.length b j]?).getD default = _
  rw [this]; rfl
theorem turnLs_get {b k : Int} (h : 0 ≤ k ∧ k < (lamps.length : Int)) : gt (turnLs lamps b lamps.length) (plI lamps.length b k) = gt lamps k := by
  obtain ⟨j, rfl⟩ : ∃ j : Nat, k = j := ⟨k.toNat, by omega⟩
  have := putAll_get (l := List.replicate lamps.length false) (v := fun k : Nat => gt lamps (k : Int)) (pl := plN lamps.length b) (n := lamps.length) (fun a b h1 h2 => plN_inj h1 h2) (fun a ha => by rw [List.length_replicate]; exact plN_lt ha) (Nat.le_refl _) (show j < lamps.length by omega)
  unfold gt turnLs
  rw [List.getD_eq_getElem?_getD]
  show ((putAll _ _ _ _)[plN lamps.length b j]?).getD default = _
  rw [this]; rfl
theorem turn_hom {b : Int} (h : HouseOk doors ways lamps) : Hom doors ways lamps (unI ways.length b) (turnWs ways b ways.length) (turnLs lamps b lamps.length) := by
  obtain ⟨a1, a2, a3, a4, a5, a6⟩ := id h
  have hwl : (turnWs ways b ways.length).length = ways.length := by rw [turnWs, putAll_len, List.length_replicate]
  have hll : (turnLs lamps b lamps.length).length = lamps.length := by rw [turnLs, putAll_len, List.length_replicate]
  have hg : ∀ r, 0 ≤ r ∧ r < (ways.length : Int) → gt (turnWs ways b ways.length) r = (gt ways (unI ways.length b r)).map (plI ways.length b) := fun r hr => by
    have := turnWs_get (b := b) (ways := ways) (un_in (b := b) hr)
    rwa [pl_un hr] at this
  refine ⟨⟨a1, a2, by rw [hwl]; exact a3, by rw [hwl]; exact a4, by rw [hwl, hll]; exact a5, fun row hrow => ?_⟩, ?_, fun r hr => ?_, fun r hr => ?_, fun r d hr hd => ?_⟩
  · obtain ⟨j, hj, e⟩ := List.mem_iff_getElem.mp hrow
    have hg1 := hg (j : Int) (by omega)
    have : gt (turnWs ways b ways.length) (j : Int) = row := gt_nat (by rw [List.getElem?_eq_getElem hj, e])
    rw [this] at hg1
    have hu := un_in (b := b) (k := (j : Int)) (rooms := (ways.length : Int)) ⟨by omega, by omega⟩
    have hro := a6 _ (gt_mem hu.1 hu.2)
    rw [hg1]
    refine ⟨by rw [List.length_map]; exact hro.1, fun x hx => ?_⟩
    obtain ⟨y, hy, rfl⟩ := List.mem_map.mp hx
    have := plI_in (b := b) (rooms := (ways.length : Int)) (hro.2 y hy)
    rw [hwl]; omega
  · unfold unI; rw [if_pos rfl]
  · rw [hwl] at hr
    exact un_in hr
  · rw [hwl, ← a5] at hr
    have := turnLs_get (b := b) (lamps := lamps) (un_in (b := b) hr)
    rw [pl_un hr] at this
    rw [this, a5]
  · rw [hwl] at hr
    have hu := un_in (b := b) hr
    have hrl := row_len h hu
    have hst := step_in h hu hd
    have : stepOf (turnWs ways b ways.length) r d = plI ways.length b (stepOf ways (unI ways.length b r) d) := by
      unfold stepOf
      rw [hg r hr]
      generalize gt ways (unI ways.length b r) = row at hrl ⊢
      unfold gt
      rw [List.getD_eq_getElem?_getD, List.getElem?_map, List.getD_eq_getElem?_getD, List.getElem?_eq_getElem (show d.toNat < row.length by omega)]; rfl
    rw [this, un_pl hst]
theorem gt_appL {α : Type} [Inhabited α] {l m : List α} {k : Int} (h : 0 ≤ k ∧ k < (l.length : Int)) : gt (l ++ m) k = gt l k := by
  unfold gt
  rw [List.getD_eq_getElem?_getD, List.getD_eq_getElem?_getD, List.getElem?_append_left (by omega)]
theorem gt_appR {α : Type} [Inhabited α] {l : List α} {x : α} {k : Int} (h : k = (l.length : Int)) : gt (l ++ [x]) k = x := by
  subst h
  unfold gt
  rw [List.getD_eq_getElem?_getD, List.getElem?_append_right (by omega)]
  simp
/-- a room more that is like an elder -/
theorem Hom.twin (h : Hom doors ways lamps φ W L) (h4 : W.length + 1 ≤ 400) {e : Int} (he : 0 ≤ e ∧ e < (W.length : Int)) : Hom doors ways lamps (fun r => if r = (W.length : Int) then φ e else φ r) (W ++ [gt W e]) (L ++ [gt L e]) := by
  obtain ⟨a1, a2, a3, a4, a5, a6⟩ := h.ok
  have hpos := room0 h.ok
  refine ⟨⟨a1, a2, by simp; omega, by simp; omega, by simp [a5], fun row hrow => ?_⟩, ?_, fun r hr => ?_, fun r hr => ?_, fun r d hr hd => ?_⟩
  · have : row ∈ W := by
      rcases List.mem_append.mp hrow with z | z
      · exact z
      · rw [List.mem_singleton.mp z]; exact gt_mem he.1 he.2
    obtain ⟨b1, b2⟩ := a6 row this
    refine ⟨b1, fun x hx => ?_⟩
    have := b2 x hx
    simp; omega
  · show (if (0 : Int) = _ then _ else _) = _
    rw [if_neg (by omega)]; exact h.zero
  · show 0 ≤ (if r = _ then _ else _) ∧ (if r = _ then _ else _) < _
    simp at hr
    split
    · exact h.into _ he
    · exact h.into _ (by omega)
  · show _ = gt lamps (if r = _ then _ else _)
    simp at hr
    split
    · rename_i q; rw [gt_appR (by omega)]; exact h.lamp _ he
    · rw [gt_appL (by omega)]; exact h.lamp _ (by omega)
  · show (if stepOf (W ++ [gt W e]) r d = _ then _ else _) = stepOf ways (if r = _ then _ else _) d
    simp at hr
    by_cases q : r = (W.length : Int)
    · have hs : stepOf (W ++ [gt W e]) r d = stepOf W e d := by unfold stepOf; rw [gt_appR q]
      have := step_in h.ok he hd
      rw [hs, if_pos q, if_neg (by omega)]; exact h.step _ _ he hd
    · have hs : stepOf (W ++ [gt W e]) r d = stepOf W r d := by unfold stepOf; rw [gt_appL (by omega)]
      have := step_in h.ok (r := r) (by omega) hd
      rw [hs, if_neg q, if_neg (by omega)]; exact h.step _ _ (by omega) hd
theorem gt_setNe {α : Type} [Inhabited α] {l : List α} {k i : Int} {v : α} (h : 0 ≤ k) (hi : 0 ≤ i) (hne : k ≠ i) : gt (l.set k.toNat v) i = gt l i := by
  unfold gt
  rw [List.getD_eq_getElem?_getD, List.getD_eq_getElem?_getD, List.getElem?_set_ne (by omega)]
/-- a door that leads elsewhere, to the like -/
theorem Hom.put (h : Hom doors ways lamps φ W L) {k door v : Int} (hk : 0 ≤ k ∧ k < (W.length : Int)) (hd : 0 ≤ door ∧ door < doors) (hv : 0 ≤ v ∧ v < (W.length : Int)) (e : φ v = φ (gt (gt W k) door)) : Hom doors ways lamps φ (W.set k.toNat ((gt W k).set door.toNat v)) L := by
  have hrl := row_len h.ok hk
  refine ⟨house_put h.ok hk hv, h.zero, fun r hr => h.into r (by simpa using hr), fun r hr => h.lamp r (by simpa using hr), fun r d hr hd' => ?_⟩
  rw [List.length_set] at hr
  by_cases q : r = k
  · subst q
    by_cases z : door = d
    · subst z
      have : stepOf (W.set r.toNat ((gt W r).set door.toNat v)) r door = v := by
        unfold stepOf; rw [gt_setSame hk, gt_setSame (by omega)]
      rw [this, e]; exact h.step r door hr hd
    · have : stepOf (W.set r.toNat ((gt W r).set door.toNat v)) r d = stepOf W r d := by
        unfold stepOf; rw [gt_setSame hk, gt_setNe hd.1 hd'.1 z]
      rw [this]; exact h.step r d hr hd'
  · have : stepOf (W.set k.toNat ((gt W k).set door.toNat v)) r d = stepOf W r d := by
      unfold stepOf; rw [gt_setNe hk.1 hr.1 (Ne.symm q)]
    rw [this]; exact h.step r d hr hd'
end
end Ask
/-! A lesson as its heads and tails alone; houses of doors twice. -/
namespace Ask
open PySem L2
section
variable (ways : List (List Int)) (lamps : List Bool) (d : Int)
/-- the row of a word as the house says -/
def rowA (tails : List Wd) (w : Wd) : List (Option Bool) := tails.map fun t => some (litOf ways lamps 0 (w ++ t))
def looseA (heads tails : List Wd) : Option Wd := (heads.flatMap (edgesOf d)).find? fun e => decide (rowA ways lamps tails e ∉ heads.map (rowA ways lamps tails))
def gWA (heads tails : List Wd) : List (List Int) := heads.map fun h => (edgesOf d h).map fun e => (ixO (heads.map (rowA ways lamps tails)) (rowA ways lamps tails e) : Int)
def gLA (heads : List Wd) : List Bool := heads.map (litOf ways lamps 0)
def closeA : Nat → List Wd → List Wd → Option (List Wd)
  | 0, _, _ => none
  | f + 1, H, T => match looseA ways lamps d H T with
    | none => some H
    | some e => closeA f (H ++ [e]) T
/-- no more tails than so many -/
def chk (most : Nat) : Nat → List Wd → List Wd → Bool
  | 0, _, _ => false
  | f + 1, H, T => decide (T.length ≤ most) && match closeA ways lamps d 10 H T with
    | none => false
    | some C => match partOf (gWA ways lamps d C T) ways (gLA ways lamps C) 0 lamps 0 d.toNat with
      | none => true
      | some w => chk most f C (endsOf T w)
/-- heads that grow edge by edge -/
inductive Reach (T : List Wd) : List Wd → List Wd → Prop
  | refl {H : List Wd} : Reach T H H
  | step {H H' : List Wd} {e : Wd} : looseA ways lamps d H T = some e → Reach T (H ++ [e]) H' → Reach T H H'
end
section
variable {ways : List (List Int)} {lamps : List Bool} {d : Int} {T H H' H2 : List Wd} {st : LSt}
theorem Reach.trans (a : Reach ways lamps d T H H') (b : Reach ways lamps d T H' H2) : Reach ways lamps d T H H2 := by
  induction a with
  | refl => exact b
  | step h _ ih => exact .step h (ih b)
theorem Reach.close (a : Reach ways lamps d T H H') : ∀ {f : Nat} {C : List Wd}, looseA ways lamps d H' T = none → closeA ways lamps d f H T = some C → C = H' := by
  induction a with
  | refl =>
    intro f C h e
    cases f with
    | zero => cases e
    | succ f => unfold closeA at e; rw [h] at e; exact (Option.some.inj e).symm
  | step h _ ih =>
    intro f C h2 e
    cases f with
    | zero => cases e
    | succ f => unfold closeA at e; rw [h] at e; exact ih h2 e
theorem rowA_of (h : unsaidOf st = []) (ht : Told ways lamps st.notes) {g l : Wd} (hg : g ∈ st.heads) (hl : l ∈ linesOf st.d g) : rowOf st.notes st.tails l = rowA ways lamps st.tails l :=
  List.map_congr_left fun t htl => by
    cases e : lk st.notes (l ++ t) with
    | none =>
      have : l ++ t ∈ unsaidOf st := mem_uH.mpr ⟨g, hg, l, hl, t, htl, rfl, e⟩
      rw [h] at this; cases this
    | some b => rw [ht _ _ e]
theorem rowsA_of (h : unsaidOf st = []) (ht : Told ways lamps st.notes) : st.heads.map (rowOf st.notes st.tails) = st.heads.map (rowA ways lamps st.tails) :=
  List.map_congr_left fun g hg => rowA_of h ht hg (by simp [linesOf])
theorem find_congr {α : Type} {p q : α → Bool} : ∀ {l : List α}, (∀ a ∈ l, p a = q a) → l.find? p = l.find? q
  | [], _ => rfl
  | a :: l, h => by
    rw [List.find?_cons, List.find?_cons, h a List.mem_cons_self, find_congr fun x hx => h x (List.mem_cons_of_mem _ hx)]
theorem looseA_of (h : unsaidOf st = []) (ht : Told ways lamps st.notes) : looseOf st = looseA ways lamps st.d st.heads st.tails := by
  unfold looseOf looseA
  refine find_congr fun e he => ?_
  obtain ⟨g, hg, hw⟩ := List.mem_flatMap.mp he
  have h1 := rowA_of h ht hg (List.mem_cons_of_mem _ hw)
  have h2 := rowsA_of h ht
  refine decide_eq_decide.mpr ?_
  unfold isLoose
  rw [h1, h2]
theorem gWA_of (h : unsaidOf st = []) (ht : Told ways lamps st.notes) : guessW st = gWA ways lamps st.d st.heads st.tails := by
  unfold guessW gWA rowsG
  refine List.map_congr_left fun g hg => List.map_congr_left fun e he => ?_
  rw [rowsA_of h ht, rowA_of h ht hg (List.mem_cons_of_mem _ he)]
theorem gLA_of (i : LInv st) (hz : st.waiting = []) (ht : Told ways lamps st.notes) : guessL st = gLA ways lamps st.heads :=
  List.map_congr_left fun g hg => by
    obtain ⟨b, hb⟩ := head_said i hz hg
    rw [hb, ht _ _ hb]; rfl
theorem settleF_reach : ∀ {f : Nat} {st : LSt}, st.waiting = unsaidOf st → Told ways lamps st.notes → Reach ways lamps st.d st.tails st.heads (settleF f st).heads
  | 0, st, _, _ => .refl
  | f + 1, st, hw, ht => by
    unfold settleF
    by_cases hz : st.waiting = []
    · rw [if_pos hz]
      have hu : unsaidOf st = [] := hw ▸ hz
      cases hl : looseOf st with
      | none => exact .refl
      | some e => exact .step (by rw [← looseA_of hu ht]; exact hl) (settleF_reach (st := growH st e) rfl ht)
    · rw [if_neg hz]; exact .refl
theorem settle_reach (ht : Told ways lamps st.notes) : Reach ways lamps st.d st.tails st.heads (settleOf st).heads := settleF_reach (st := fillW st) rfl ht
theorem answer_reach (g : Good d ways lamps st) {lit : Bool} (hl : ∀ w ws, st.waiting = w :: ws → lit = litOf ways lamps 0 w) : Reach ways lamps d st.tails st.heads (answerOf st lit).heads := by
  unfold answerOf
  cases e : st.waiting with
  | nil => exact .refl
  | cons w ws =>
    dsimp only
    split
    · have := settle_reach (st := { st with notes := st.notes ++ [(w, lit)], waiting := [] }) (g.td.app (hl w ws e).symm)
      rw [← g.e]; exact this
    · exact .refl
/-- candidates, each line once -/
theorem notes_few2 (hr : LRich st) (hn : (st.notes.map Prod.fst).Nodup) : st.notes.length ≤ (st.heads.length * st.d.toNat + 1) * st.tails.length := by
  have := nodup_sub_length (m := (([] : Wd) :: st.heads.flatMap (edgesOf st.d)).flatMap fun l => st.tails.map fun t => l ++ t) hn fun w hw => by
    obtain ⟨e, he, rfl⟩ := List.mem_map.mp hw
    obtain ⟨h, hh, l, hl, t, ht, q⟩ := hr.nt e.1 (by rw [lk_nd hn he]; simp)
    rw [q]
    refine List.mem_flatMap.mpr ⟨l, ?_, List.mem_map.mpr ⟨t, ht, rfl⟩⟩
    rcases List.mem_cons.mp hl with rfl | hl
    · rcases hr.hp l hh with rfl | ⟨g, hg, he⟩
      · exact List.mem_cons_self
      · exact List.mem_cons_of_mem _ (List.mem_flatMap.mpr ⟨g, hg, he⟩)
    · exact List.mem_cons_of_mem _ (List.mem_flatMap.mpr ⟨h, hh, hl⟩)
  rw [List.length_map, flat_len (n := st.tails.length) (fun l _ => by simp), List.length_cons, flat_len (n := st.d.toNat) (fun h _ => by simp [edgesOf])] at this
  exact this
/-- a lesson whose run was looked at -/
theorem teach_chk (hk : HouseOk d ways lamps) (hs : ways.length ≤ 9) {most f : Nat} (hm : most ≤ 14) (h : chk ways lamps d most f [[]] [[]] = true) : Teach d ways lamps := by
  have hd := hk.1
  have hd6 := hk.2.1
  have hin := settle_ok (init_ok hd hd6)
  refine Teach.of hk (by omega) (Q := fun st => ∃ f H, chk ways lamps d most f H st.tails = true ∧ Reach ways lamps d st.tails H st.heads) ⟨f, [[]], ?_, ?_⟩ (fun st g hq => ?_) (fun st w ws g hq hwt l ht => ?_) fun st w g hq hz hp hw hl ht hgr l => ?_
  · rw [show (initOf d).tails = [[]] from hin.2.t]; exact h
  · rw [show (initOf d).tails = [[]] from hin.2.t]
    exact settle_reach (st := ⟨d, [], [[]], [[]], []⟩) told_nil
  · obtain ⟨f, H, h1, h2⟩ := hq
    have ht : st.tails.length ≤ most := by
      cases f with
      | zero => cases h1
      | succ f =>
        unfold chk at h1
        rw [Bool.and_eq_true] at h1
        exact of_decide_eq_true h1.1
    have hn := notes_few2 g.r g.nd
    have hh := g.rooms hk
    have he := g.e
    have : (st.heads.length * st.d.toNat + 1) * st.tails.length ≤ (9 * 6 + 1) * 14 := Nat.mul_le_mul (Nat.add_le_add_right (Nat.mul_le_mul (by omega) (by omega)) 1) (by omega)
    exact ⟨by omega, by omega⟩
  · obtain ⟨f, H, h1, h2⟩ := hq
    rw [ht]
    refine ⟨f, H, h1, h2.trans (answer_reach g fun x xs e => ?_)⟩
    rw [hwt] at e; cases e; rfl
  · obtain ⟨f, H, h1, h2⟩ := hq
    have hu : unsaidOf st = [] := by rw [← g.i.wt]; exact hz
    have hlo : looseA ways lamps d st.heads st.tails = none := by
      rw [← g.e, ← looseA_of hu g.td]; exact g.i.lo hz
    cases f with
    | zero => cases h1
    | succ f =>
      unfold chk at h1
      rw [Bool.and_eq_true] at h1
      have h3 := h1.2
      cases hc : closeA ways lamps d 10 H st.tails with
      | none => rw [hc] at h3; cases h3
      | some C =>
        rw [hc] at h3
        obtain rfl := h2.close hlo hc
        dsimp only at h3
        rw [gWA_of hu g.td, gLA_of g.i hz g.td, g.e] at hp
        rw [hp] at h3
        dsimp only at h3
        refine ⟨f, st.heads, by rw [ht]; exact h3, ?_⟩
        rw [ht]
        have := settle_reach (st := { st with notes := ins st.notes w (litOf ways lamps 0 w), tails := endsOf st.tails w, waiting := [] }) (g.td.ins rfl)
        rw [← g.e]; exact this
/-- how many tails there are behind so many heads -/
def tlC (h : Nat) : Nat := 1 + 5 * (h * (h + 1) / 2)
theorem tlC_le {h : Nat} (hh : h ≤ 5) : tlC h ≤ 76 := by
  have : h = 0 ∨ h = 1 ∨ h = 2 ∨ h = 3 ∨ h = 4 ∨ h = 5 := by omega
  rcases this with rfl | rfl | rfl | rfl | rfl | rfl <;> decide
theorem tlC_le3 {h : Nat} (hh : h ≤ 3) : tlC h ≤ 31 := by
  have : h = 0 ∨ h = 1 ∨ h = 2 ∨ h = 3 := by omega
  rcases this with rfl | rfl | rfl | rfl <;> decide
theorem tlC_mono {a b : Nat} (h : a ≤ b) : tlC a ≤ tlC b := by
  unfold tlC
  have : a * (a + 1) ≤ b * (b + 1) := Nat.mul_le_mul h (by omega)
  omega
theorem tlC_step {b h : Nat} (h1 : b < h) : tlC b + 5 * h ≤ tlC h := by
  have h2 := tlC_mono (show b ≤ h - 1 by omega)
  have h3 : tlC (h - 1) + 5 * h = tlC h := by
    obtain ⟨k, rfl⟩ : ∃ k, h = k + 1 := ⟨h - 1, by omega⟩
    unfold tlC
    rw [Nat.add_sub_cancel]
    have e1 : (k + 1) * (k + 1 + 1) = k * (k + 1) + 2 * (k + 1) := by
      show (k + 1) * (k + 2) = _
      rw [Nat.mul_add, Nat.mul_comm (k + 1) k, Nat.mul_comm (k + 1) 2]
    omega
  omega
theorem teach_mid (hk : HouseOk d ways lamps) (hs : (d ≤ 4 ∧ ways.length ≤ 3) ∨ (d ≤ 2 ∧ ways.length ≤ 5)) : Teach d ways lamps := by
  have hd := hk.1
  refine Teach.of hk (by omega) (Q := fun st => ∃ before, st.tails.length ≤ tlC before ∧ before ≤ ways.length ∧ Grow st ((before : Nat) + 1 : Int)) ⟨0, ?_, Nat.zero_le _, grow_one⟩ (fun st g hq => ?_) (fun st w ws g hq _ l ht => ?_) fun st w g hq hz _ hw hl ht hgr l => ?_
  · rw [show (initOf d).tails = [[]] from (settle_ok (init_ok hk.1 hk.2.1)).2.t]; decide
  · obtain ⟨b, h1, h2, h3⟩ := hq
    have hn := notes_few2 g.r g.nd
    have hh := g.rooms hk
    have he := g.e
    rcases hs with ⟨s1, s2⟩ | ⟨s1, s2⟩
    · have ht := tlC_le3 (show b ≤ 3 by omega)
      have : (st.heads.length * st.d.toNat + 1) * st.tails.length ≤ (3 * 4 + 1) * 31 := Nat.mul_le_mul (Nat.add_le_add_right (Nat.mul_le_mul (by omega) (by omega)) 1) (by omega)
      exact ⟨by omega, by omega⟩
    · have ht := tlC_le (show b ≤ 5 by omega)
      have : (st.heads.length * st.d.toNat + 1) * st.tails.length ≤ (5 * 2 + 1) * 76 := Nat.mul_le_mul (Nat.add_le_add_right (Nat.mul_le_mul (by omega) (by omega)) 1) (by omega)
      exact ⟨by omega, by omega⟩
  · obtain ⟨b, h1, h2, h3⟩ := hq
    exact ⟨b, by rw [ht]; exact h1, h2, h3.later l⟩
  · obtain ⟨b, h1, h2, h3⟩ := hq
    have h4 := h3 st g.i g.r hz Later.refl
    have h5 := g.rooms hk
    refine ⟨st.heads.length, ?_, h5, hgr⟩
    rw [ht]
    have e1 := endsOf_len (tails := st.tails) (w := w)
    have e2 := tlC_step (show b < st.heads.length by omega)
    have e3 : st.heads.length * ways.length ≤ st.heads.length * 5 := Nat.mul_le_mul_left _ (by omega)
    omega
end
def twiceW (d by' : Nat) : List (List Int) :=
  (((List.range d).map fun k : Nat => 1 + (k : Int)) :: ((List.range d).map fun k : Nat => (List.range d).map fun j : Nat => if (j : Int) = ((k : Int) + (by' : Int)) % (d : Int) then (d : Int) + 1 else (d : Int) + 2)) ++ [List.replicate d ((d : Int) + 2), List.replicate d ((d : Int) + 2)]
def twiceL (d : Nat) : List Bool := (List.range (d + 3)).map fun k : Nat => decide ((k : Int) = (d : Int) + 1)
theorem twice_chk : ∀ d ∈ [2, 3, 4, 5, 6], ∀ b ∈ List.range d, chk (twiceW d b) (twiceL d) d 14 8 [[]] [[]] = true := by decide +kernel
theorem twice_mod {d b : Nat} : twiceW d b = twiceW d (b % d) := by
  unfold twiceW
  congr 3
  funext k
  refine List.map_congr_left fun j _ => ?_
  rw [Int.natCast_emod, Int.add_emod_emod]
theorem twice_len {d b : Nat} : (twiceW d b).length = d + 3 := by simp [twiceW]
theorem twice_ok {d b : Nat} (h1 : 1 ≤ d) (h6 : d ≤ 6) : HouseOk d (twiceW d b) (twiceL d) := by
  refine ⟨by omega, by omega, by rw [twice_len]; omega, by rw [twice_len]; omega, by rw [twice_len]; simp [twiceL], fun row hr => ?_⟩
  rw [twice_len]
  unfold twiceW at hr
  rcases List.mem_append.mp hr with z | z
  · rcases List.mem_cons.mp z with rfl | z
    · refine ⟨by simp, fun x hx => ?_⟩
      obtain ⟨k, hk, rfl⟩ := List.mem_map.mp hx
      have := List.mem_range.mp hk
      omega
    · obtain ⟨k, hk, rfl⟩ := List.mem_map.mp z
      refine ⟨by simp, fun x hx => ?_⟩
      obtain ⟨j, hj, rfl⟩ := List.mem_map.mp hx
      split <;> omega
  · have : row = List.replicate d ((d : Int) + 2) := by simpa using z
    subst this
    refine ⟨by simp, fun x hx => ?_⟩
    rw [List.eq_of_mem_replicate hx]
    omega
theorem teach_twice {d b : Nat} (h2 : 2 ≤ d) (h6 : d ≤ 6) : Teach d (twiceW d b) (twiceL d) := by
  rw [twice_mod]
  refine teach_chk (twice_ok (by omega) h6) (by rw [twice_len]; omega) (Nat.le_refl 14) (f := 8) (twice_chk d ?_ _ (List.mem_range.mpr (Nat.mod_lt _ (by omega))))
  have : d = 2 ∨ d = 3 ∨ d = 4 ∨ d = 5 ∨ d = 6 := by omega
  rcases this with rfl | rfl | rfl | rfl | rfl <;> simp
end Ask
/-! A comprehension whose step may raise. -/
namespace Ask
open PySem PySem.Spec PyProof.Rows L2
/-- what is left behind a comprehension, its env told -/
def CompR (M : Model) (A : Around) (E Q : Value → Shared → Prop) (acc : Value) (ce : Env) (r : Result) (z : Shared) : Prop :=
  match r with
  | .ok _ => ∃ m, z.heap.Ns ce.locals m ∧ ∀ g, Heap.SameBut ce.locals z.heap g → Q acc { z with heap := g }
  | .error x => ∃ m, z.heap.Ns ce.locals m ∧ ∀ g, Heap.SameBut ce.locals z.heap g → wpAny M A (PySem.passOn "comprehension.variables-let-go" x ce : Sem Value) (fun _ _ => False) E { z with heap := g }
theorem comp_rule {M : Model} {A : Around} {E Q : Value → Shared → Prop} {z : Shared} {env : Env} {ex : Expr} {sc : Scope} {pos : Pos} {mk it1 : Sem Value} {c1 : Comprehension} {cs : List Comprehension} {cl : List (Str × Addr)}
    (e1 : clausesOf ex = c1 :: cs) (e2 : ∀ x, foldedSetIterable c1.iter env x = pure x) (e3 : closureFor sc env = pure cl) (e4 : sc.kind = .function) (e5 : ∀ x ∈ sc.names, x.2 = .local → sc.names.lookup x.1 = some .local)
    (k : wpAny M A it1 (fun x z1 => wpAny M A (pyIter x) (fun it z2 => wpAny M A mk (fun acc z3 => wpAny M A (newFunctionEnv sc env.globals cl [] env.qual none .none (some env)) (fun cv z4 =>
      codeAny M A (.compStart ex 0 it acc { cv with scope := relabel sc env }) (CompR M A E Q acc { cv with scope := relabel sc env }) z4) E z3) E z2) E z1) E z) :
    wpAny M A (comprehension ex sc env pos mk false it1 none) Q E z := by
  unfold comprehension
  rw [e3, e1]
  refine wpAny_bind (wpAny_mono k (fun x z1 k1 => ?_) fun _ _ y => y)
  refine wpAny_bind (wpAny_standAt (wpAny_bind (wpAny_of_eq (e2 x) (wpAny_bind (wpAny_holding (wpAny_mono k1 (fun it z2 k2 => ?_) fun _ _ y => y))))))
  refine wpAny_standIf (wpAny_bind (wpAny_mono k2 (fun acc z3 k3 => ?_) fun _ _ y => y))
  refine wpAny_bind (wpAny_pure (wpAny_bind (wpAny_mono k3 (fun cv z4 k4 => ?_) fun _ _ y => y)))
  dsimp only
  have own : ∀ x ∈ (sc.names.filter fun x => (x.2 == .local || x.2 == .cell) && x.1 != (".0" : Str)).reverse, x.2 = .local → Env.kindOf { cv with scope := relabel sc env } x.1 = some .local := fun x hx hl =>
    lookup_relabel_local (e5 x (List.mem_filter.mp (List.mem_reverse.mp hx)).1 hl)
  refine wpAny_holding (wpAny_bind (wpAny_attempt (wpAny_holding (wpAny_run (codeAny_mono k4 fun r z5 kr => ?_)))))
  cases r with
  | ok f =>
    obtain ⟨m, hn, kq⟩ := kr
    exact wpAny_bind (wpAny_holding (wpAny_comp_letGo (cenv := { cv with scope := relabel sc env }) e4 _ z5 m own hn fun g _ _ sb => wpAny_pure (kq g sb)))
  | error x =>
    obtain ⟨m, hn, kq⟩ := kr
    exact wpAny_bind (wpAny_holding (wpAny_comp_letGo (cenv := { cv with scope := relabel sc env }) e4 _ z5 m own hn fun g _ _ sb => wpAny_mono (kq g sb) (fun _ _ f => f.elim) fun _ _ y => y))
theorem note_frame {x : Value} {e1 e2 : Env} (h : e1.frame = e2.frame) : noteFrame x e1 = noteFrame x e2 := by
  unfold noteFrame PySem.frameOf
  rw [h]
theorem frames_hide {B h1 h2 : Heap} {C : Addr} (k : ∀ b, b ≠ C → h2.get? b = h1.get? b) : ∀ {l : List Env}, h1.FunFrames B l → C ∉ frs l → h2.FunFrames (B.hide C) l
  | [], _, _ => trivial
  | e :: l, ⟨a1, ⟨L, o, a2, a3, a4, a5⟩, a6⟩, hC => by
    have hL : L ≠ C := fun z => hC (List.mem_filterMap.mpr ⟨e, List.mem_cons_self, by rw [a2, z]⟩)
    refine ⟨a1, ⟨L, o, a2, ?_, (k L hL).trans a4, a5⟩, frames_hide k a6 fun z => hC ?_⟩
    · rw [Heap.hide_ne B hL]; exact a3
    · obtain ⟨e', he', q⟩ := List.mem_filterMap.mp z
      exact List.mem_filterMap.mpr ⟨e', List.mem_cons_of_mem _ he', q⟩
section
variable {X : Cx} {pins pins' : List (Addr × Obj)} {σ σ' : L2.St} {H3 H' : Hp} {s3 s0 s' : Shared} {fp : List Addr} {scope : Scope} {ce : Env} {E0 : XK} {Qf : Value → Shared → Prop} {acc u : Value}
theorem comp_out (hstk : X.stack = X.env :: X.outer) (hfm : X.env.frame = some X.env.locals) (tk : L2.Takes X (fun c d _ G => E0 c d G)) (I3 : Inv X pins σ H3 s3) (hC : ce.locals = s3.heap.objs.size) (hfe : ce.frame = X.env.frame)
    (f3 : ∀ b ∈ fp, FpOk X pins H3 b) (J : Inv (X.blk s3 H3 scope ce fp) pins' σ' H' s0) (c : L2.CX X.prog X.w X.stack H' s0 E0 u s') : notedBy (model X.prog X.w) X.A ce (fun e z => CompR (model X.prog X.w) X.A X.xe Qf acc ce (.error e) z) u s' := by
  have I7 : Inv X pins σ H' s0 := I3.call' (ch := fp) J.os J.base J.hok J.bare fun b hb => ⟨(f3 b hb).2.2.2.1, (f3 b hb).2.1, (f3 b hb).2.2.2.2.1, (f3 b hb).2.2.2.2.2⟩
  obtain ⟨m0, hn0, _⟩ := J.loc
  have hn0 : s0.heap.Ns ce.locals m0 := hn0
  have nC : H' ce.locals = none := J.free
  have fC : FpOk X pins H' ce.locals := by
    rw [hC] at nC ⊢
    exact I3.fpOk (Nat.le_refl _) nC
  obtain ⟨oC, esC, epC, hoC, hdC, rC⟩ := hn0
  have I9 := I7.pinned (fp := [ce.locals]) (fun b hb => by rw [List.mem_singleton.mp hb]; exact fC) (fun b hb => by rw [List.mem_singleton.mp hb]; exact ⟨oC, hoC, fun v z => by rw [hdC] at z; cases z⟩)
  obtain ⟨a, B, sI, pins2, σ2, H2, cls, d, rfl, I8, nb, up, sky, na, os, ag, w⟩ := XE.of_call (W := fun c d _ G => E0 c d G) (I9.toTry X.xe) (fun _ _ _ z => z) c
  have pC := I8.pin (ce.locals, oC) (List.mem_append_left _ (List.mem_append_right _ (List.mem_append_right _ (mem_pinsAt (by simp) hoC))))
  have J3 : Inv X pins σ2 H2 sI := (I8.ofTry I7.ok).unpinned
  have hCf : ce.locals ∉ frs X.stack := fun z => by
    rcases List.mem_cons.mp (J3.stkSub _ z) with q | q
    · exact fC.2.1 q
    · exact fC.2.2.1 q
  have hBC : B.get? ce.locals = some oC := nb _ _ pC.1 hCf
  have hfr : X.A.frames = some (X.env :: X.outer) := by rw [J3.ok.frames, hstk]
  have sky : Sky B (X.env :: X.outer) a (Zc cls d) X.env.locals s'.heap := by rw [← hstk]; exact sky
  have fin : ∀ h1, HandSPX.HeldZ B (X.env :: X.outer) a (Zc cls d) X.env.locals h1 → s'.heap.UpToSlots h1 → CompR (model X.prog X.w) X.A X.xe Qf acc ce (.error (.ref a)) { s' with heap := h1 } := by
    intro h1 hh up1
    obtain ⟨g1, g2, g3, oe, vs, Tt, oT, ts, he, hz, hd, hv1, hnT, hTe, hT, hdT, h3⟩ := hh
    refine ⟨m0, ⟨oC, esC, epC, g1 _ _ hBC, hdC, rC⟩, fun h2 sb => ?_⟩
    have ha : a ≠ ce.locals := fun z => by rw [z, hBC] at g2; cases g2
    have hTc : Tt ≠ ce.locals := fun z => by rw [z, hBC] at hnT; cases hnT
    have k2 : ∀ b, b ≠ ce.locals → h2.get? b = h1.get? b := fun b hb => sb.2 b hb
    have he2 : h2.get? a = some oe := (k2 a ha).trans he
    have hid : ∀ {b : Addr} {o : Obj}, (B.hide ce.locals).get? b = some o → b ≠ ce.locals ∧ B.get? b = some o := fun {b o} e => ⟨fun z => (by rw [z, Heap.hide_self] at e; cases e), Heap.of_hide e⟩
    have hidI : ∀ {b : Addr} {o : Obj}, (sI.heap.hide ce.locals).get? b = some o → b ≠ ce.locals ∧ sI.heap.get? b = some o := fun {b o} e => ⟨fun z => (by rw [z, Heap.hide_self] at e; cases e), Heap.of_hide e⟩
    have st2 : (B.hide ce.locals).StaysIn h2 := fun b o e => by
      obtain ⟨q1, q2⟩ := hid e
      exact (k2 b q1).trans (g1 b o q2)
    have ff2 : h2.FunFrames (B.hide ce.locals) (X.env :: X.outer) := frames_hide k2 g3 (by rw [← hstk]; exact hCf)
    have nTt : (B.hide ce.locals).get? Tt = none := by
      cases e : (B.hide ce.locals).get? Tt with
      | none => rfl
      | some o => have := (hid e).2; rw [hnT] at this; cases this
    have tr2 : HandSPX.TracedZ h2 (B.hide ce.locals) a (Zc cls d) (rawInt X.env.locals) := ⟨oe, vs, Tt, oT, ts, he2, hz, hd, hv1, nTt, hTe, (k2 Tt hTc).trans hT, hdT, h3⟩
    have out : ∀ h4, (B.hide ce.locals).StaysIn h4 → h4.FunFrames (B.hide ce.locals) (X.env :: X.outer) → HandSPX.TracedZ h4 (B.hide ce.locals) a (Zc cls d) (rawInt X.env.locals) → h2.UpToSlots h4 → X.xe (.ref a) { s' with heap := h4 } := fun h4 q1 q2 q3 q4 => by
      refine tk _ _ ⟨a, B.hide ce.locals, { sI with heap := sI.heap.hide ce.locals, toks := sI.toks }, pins, σ2, H2, cls, d, rfl, J3.turned (fun b o hb e => (Heap.hide_ne _ hb).trans e) pC.2.1 fC.2.1 fC.2.2.2.1 fC.2.2.2.2.1 fC.2.2.2.2.2, fun b o e hb => ?_, fun b o e hf => ?_, ?_, na, os, ag, w⟩
      · obtain ⟨q5, q6⟩ := hidI e
        exact (Heap.hide_ne _ q5).trans (nb b o q6 hb)
      · obtain ⟨q5, q6⟩ := hidI e
        obtain ⟨sl, q7⟩ := (up.trans up1) b o q6 hf
        exact q4 b { o with slots := sl } ((k2 b q5).trans q7) hf
      · rw [hstk]
        refine .inr (.inr ⟨q1, ?_, q2, q3⟩)
        cases e : (B.hide ce.locals).get? a with
        | none => rfl
        | some o => have := (hid e).2; rw [g2] at this; cases this
    unfold PySem.passOn
    refine wpAny_bind (wpAny_field he2 hd hv1 ?_)
    rw [if_neg (show ¬ ((Value.ref Tt == Value.none) = true) from by simp)]
    have go : wpAny (model X.prog X.w) X.A (setFlight (.ref a) ce.frame) (fun _ z => wpAny (model X.prog X.w) X.A (throw (.ref a) : Sem Value) (fun _ _ => False) X.xe z) X.xe { s' with heap := h2 } := by
      rw [hfe, hfm]
      exact HandSPX.setFlight_anyZ st2 ff2 tr2 fun h4 q1 q2 q3 q4 => wpAny_throw (out h4 q1 q2 q3 q4)
    first
      | exact wpAny_bind (wpAny_pure (wpAny_bind go))
      | exact wpAny_bind go
  show wpAny _ _ (noteFrame (.ref a) ce) _ _ _
  rw [note_frame hfe]
  rcases sky with ⟨hB, hn, hl, oe, vs, he, hz, hd, h1⟩ | fl | hh
  · exact HandSPX.look_newZ Zc.steady hfr hl hfm he hB hn hd h1 hz fin
  · exact HandSPX.looks_onZ Zc.steady hfr hfm fl fin
  · exact HandSPX.againZ hfm hh.2.2.2 (fin _ hh (Heap.UpToSlots.refl _))
/-- [elt for target in iter] where the step may raise -/
theorem pe_lcX {elt tg iter : Expr} {own : List (Str × Nat)} {pos : Pos} {wi : TI} {g : TG} {te : TE} (hstk : X.stack = X.env :: X.outer) (hfm : X.env.frame = some X.env.locals) (tk : L2.Takes X (fun c d _ G => E0 c d G)) (hc : X.calm = true) (hN : X.N.Nodup) (hi : PI X tg iter wi) (ok : BlkOk X.N X.env.scope scope own)
    (hg : ∀ (z : Shared) (G : Hp) (C : Addr) (cl : List (Str × Addr)) (fs : List Addr) (xe : Value → Shared → Prop), PG ((X.blk z G scope (compEnvC scope cl C X.env) fs).wish xe) tg g)
    (he : ∀ (z : Shared) (G : Hp) (C : Addr) (cl : List (Str × Addr)) (fs : List Addr) (xe : Value → Shared → Prop), (∀ r, PassesAt (L2.CX X.prog X.w) ((X.blk z G scope (compEnvC scope cl C X.env) fs).wish xe) r (WE (fun c d _ G => E0 c d G) r)) → PE ((X.blk z G scope (compEnvC scope cl C X.env) fs).wish xe) elt te)
    (hs : ∀ x, foldedSetIterable iter X.env x = pure x := by intro _; rfl) : PE X (.ListComp elt [⟨tg, iter, [], 0⟩] scope pos) (tLc wi g tYes te (own.map (·.2))) := by
  refine ⟨fun ps z r G Q I h => ?_⟩
  rw [eval_ListComp]
  have free : ∀ y ∈ scope.names, y.2 = .free → ∃ c, X.env.cells.lookup y.1 = some c := fun y hy e => (ok.free y hy e).elim (fun k => I.ok.has _ (.inl k)) fun k => I.ok.has _ (.inr k)
  refine comp_rule rfl hs (closure_ok free) ok.kind (fun y hy e => by rw [ok.uniq y hy, e]) (thn (hi.run ps z r G _ I h) fun xv z1 hx => thn hx fun itv z2 h2 => ?_)
  obtain ⟨it, fs, tn, J, G2, rfl, I2, T, st2, f2, q⟩ := h2
  refine wpAny_newObj_type (newEnv_comp ?_) (Nat.zero_le _)
  generalize hD : z2.heap.objs.size = D
  have nD : G2 D = none := I2.hok.fresh (Nat.le_of_eq hD)
  obtain ⟨W, ⟨m0, w0⟩, turn⟩ := q D nD
  generalize hz3 : ({ z2 with heap := z2.heap.push { cls := .type "list", data := .seq ([] : List Value).toArray } } : Shared) = z3
  have e3 : z3.heap = z2.heap.push { cls := .type "list", data := .seq ([] : List Value).toArray } := by rw [← hz3]
  have I3 : Inv X ps r (upd G2 D (.lst [])) z3 := by
    rw [← hz3]
    exact I2.laid (t' := z2.toks) (fun b o e => Heap.get?_push_of_some _ e) (Nat.le_of_eq hD) ⟨Nat.zero_le _, [], 0, .nil, by rw [← hD]; exact Heap.get?_push_size _ rfl⟩
  have lt2 : ∀ b ∈ fs, b < z2.heap.objs.size := fun b hb => by
    obtain ⟨ob, e, _⟩ := T.obj _ _ st2 b hb
    exact Heap.lt_size e
  have f3 : ∀ b ∈ fs, FpOk X ps (upd G2 D (.lst [])) b ∧ b < z3.heap.objs.size := fun b hb => by
    have hlt := lt2 b hb
    refine ⟨⟨?_, (f2 b hb).2⟩, by rw [e3, Heap.size_push]; exact Nat.lt_succ_of_lt hlt⟩
    rw [upd_ne (hD ▸ Nat.ne_of_lt hlt)]
    exact (f2 b hb).1
  have st3 : tn 0 z3.heap := T.keep _ _ _ st2 fun b _ o e => by rw [e3]; exact Heap.get?_push_of_some _ e
  have J4 := block_start I3 ok hN f3
  have nf : ∀ b ∈ fs, (upd G2 D (.lst [])) b = none := fun b hb => (f3 b hb).1.1
  show codeAny _ _ (.compStart (.ListComp elt [⟨tg, iter, [], 0⟩] scope pos) 0 (.ref it) (.ref D) (compEnvC scope (cellsFrom (z3.heap.objs.size + 1) scope.names (cloFrom X.env.cells scope.names [])) z3.heap.objs.size X.env)) (CompR (model X.prog X.w) X.A X.xe (EP X ps r Q) (.ref D) (compEnvC scope (cellsFrom (z3.heap.objs.size + 1) scope.names (cloFrom X.env.cells scope.names [])) z3.heap.objs.size X.env)) { z3 with heap := pushCells (z3.heap.push { cls := .type "dict", data := .dict #[] }) scope.names }
  have pg := fun xe => hg z3 (upd G2 D (.lst [])) z3.heap.objs.size (cellsFrom (z3.heap.objs.size + 1) scope.names (cloFrom X.env.cells scope.names [])) fs xe
  have pe := fun xe => he z3 (upd G2 D (.lst [])) z3.heap.objs.size (cellsFrom (z3.heap.objs.size + 1) scope.names (cloFrom X.env.cells scope.names [])) fs xe
  generalize hce : compEnvC scope (cellsFrom (z3.heap.objs.size + 1) scope.names (cloFrom X.env.cells scope.names [])) z3.heap.objs.size X.env = ce at J4 pg pe ⊢
  have cL : ce.locals = z3.heap.objs.size := by subst hce; rfl
  have cF : ce.frame = X.env.frame := by subst hce; rfl
  generalize upd G2 D (.lst []) = G3 at I3 J4 pg pe w0 nf f3
  generalize hz4 : ({ z3 with heap := pushCells (z3.heap.push { cls := .type "dict", data := .dict #[] }) scope.names } : Shared) = z4 at J4 ⊢
  have st4 : tn 0 z4.heap := T.keep _ _ _ st3 fun b _ o e => by rw [← hz4]; exact pushCells_keeps _ _ _ _ (Heap.get?_push_of_some _ e)
  have stat : ∀ {r' : L2.St} {G' : Hp} {y : Shared}, Inv (X.blk z3 G3 scope ce fs) [] r' G' y → (∀ b ∈ fs, G' b = none) → ∀ b ∈ fs, FpOk (X.blk z3 G3 scope ce fs) [] G' b := fun {r' G' y} I' hn b hb =>
    ⟨hn b hb, (I'.ok.exf b hb).1, I'.ok.exfs b hb, Or.inl hb, (I'.ok.exf b hb).2, fun q hq => by cases (show q ∈ ([] : List (Addr × Obj)) from hq)⟩
  -- what a step lets out
  let xe : Value → Shared → Prop := fun u y => ∃ ps' r' G' y0, Inv (X.blk z3 G3 scope ce fs) ps' r' G' y0 ∧ L2.CX X.prog X.w X.stack G' y0 E0 u y
  have outs : ∀ u y, xe u y → notedBy (model X.prog X.w) X.A ce (fun e y => CompR (model X.prog X.w) X.A X.xe (EP X ps r Q) (.ref D) ce (.error e) y) u y := fun u y hx => by
    obtain ⟨ps', r', G', y0, J0, c0⟩ := hx
    exact comp_out hstk hfm tk I3 cL cF (fun b hb => (f3 b hb).1) J0 c0
  have pe2 := pe xe fun r' ps' G' y0 u y J0 c0 => ⟨ps', r', G', y0, J0.unwish, c0⟩
  have pg2 := pg xe
  have loop : codeAny (model X.prog X.w) X.A (.compLoop (.ListComp elt [⟨tg, iter, [], 0⟩] scope pos) 0 (.ref it) (.ref D) ce) (CompR (model X.prog X.w) X.A X.xe (EP X ps r Q) (.ref D) ce) z4 := by
    refine compLoop_any (fun n y => ∃ i G', Inv (X.blk z3 G3 scope ce fs) [] (wipe r (own.map (·.2))) G' y ∧ tn i y.heap ∧ (∀ b ∈ fs, G' b = none) ∧ W i n G') ?_ m0 ⟨0, G3, J4, st4, nf, w0⟩
    rintro n y5 ⟨i, G5, I5, st5, n5, w5⟩
    rcases turn i n G5 w5 with ⟨stop, qq⟩ | ⟨go, Nx, hNx, step⟩
    · refine thnF (T.done (X.blk z3 G3 scope ce fs) rfl rfl rfl hc i [] y5 _ G5 (fun _ _ => False) I5 (stat I5 n5) st5 stop) fun rr y6 ⟨hr, I6⟩ => ?_
      subst hr
      have I7 : Inv X ps r G5 y6 := I3.call' (ch := fs) I6.os I6.base I6.hok I6.bare fun b hb => ⟨(f3 b hb).1.2.2.2.1, (f3 b hb).1.2.1, (f3 b hb).1.2.2.2.2.1, (f3 b hb).1.2.2.2.2.2⟩
      obtain ⟨m, hn, _⟩ := I6.loc
      have fC : FpOk X ps G5 ce.locals := by
        have nC : G5 ce.locals = none := I6.free
        rw [cL] at nC ⊢
        exact I3.fpOk (Nat.le_refl _) nC
      obtain ⟨k0, k1, k2, k3, k4, k5⟩ := fC
      exact ⟨m, hn, fun g sb => ⟨.ref D, G5, I7.turned (t' := y6.toks) (fun b o hb e => (sb.2 b hb).trans e) k0 k1 k3 k4 k5, rfl, qq⟩⟩
    · refine thnF (T.item (X.blk z3 G3 scope ce fs) rfl rfl rfl hc i [] y5 _ G5 (fun _ _ => False) I5 (stat I5 n5) st5 go) fun rr y6 ⟨u, hr, h6⟩ => ?_
      subst hr
      refine thnF h6 fun _ y7 ⟨x, G7, I7, r7, x7, st7, n7⟩ => ?_
      have I7p := (I7.pinned (stat I7 n7) (T.obj _ _ st7)).wish xe
      refine wpAny_mono (pg2.run _ y7 _ G7 x u _ I7p r7 (step x G7 x7)) (fun _ y8 ⟨r8, G8, I8, hw8, q8⟩ => ?_) outs
      have q8 : te r8 G8 _ := q8
      refine wpAny_tests_nil (Q := fun ok y => _) ?_
      simp only [if_true]
      refine wpAny_mono (pe2.run _ y8 r8 G8 _ I8 q8) (fun v y9 ⟨yv, G9, I9, r9, acc9, hD9, hz9, nx⟩ => ?_) outs
      refine app_ok (X := X.blk z3 G3 scope ce fs) I9.unwish hD9 hz9 r9 fun y10 I10 => ?_
      obtain ⟨m', hm, w'⟩ := hNx _ nx
      have pin' : ∀ b ∈ fs, ∀ o, y7.heap.get? b = some o → y10.heap.get? b = some o ∧ _ = none := fun b hb o e =>
        let zz := I10.pin (b, o) (List.mem_append_right _ (List.mem_append_right _ (mem_pinsAt hb e)))
        ⟨zz.1, zz.2.1⟩
      have hl : (wipe r (own.map (·.2))).length = r8.length := by rw [← hw8, wipe_length]
      refine ⟨m', hm, i + 1, _, (I10.unpinned (pins := [])).weak hl (fun j v e => ?_), T.keep _ _ _ st7 fun b hb o e => (pin' b hb o e).1, fun b hb => ?_, w'⟩
      · rw [← hw8] at e
        exact (wipe_some e).1
      · obtain ⟨ob, e, _⟩ := T.obj _ _ st7 b hb
        exact (pin' b hb ob e).2
  refine codeAny_compStart_list loop ?_
  exact T.self X.A 0 _ _ _ st4 loop
end
end Ask
/-! An except suite that raises: what the body may let out has no context. -/
namespace Ask
open PySem PySem.Spec PyProof.Rows L2
/-- a def whose exceptions have no context -/
theorem Fun.okN {P : Program} {w : World} {K : PySem.W.Frag} {mg : Str → Option Value} {base : Heap} {x qual : Str} {st : Stmt} {f : Addr} {fd : FuncData} {N ps : List Str} {k : Nat} {sp : Sp} (F : L2.Fun K x qual st f fd) (S : FnScope N ps (defScope st)) (len : ∀ vs H Q E, sp vs H Q E → vs.length = ps.length)
    (hb : ∀ (cdv : Value) (A : Around) (outer : List Env) (s : Shared) (H : Hp) (vs : List V) (Q : VK) (E : XK), Room k (A.deeper (envOfC qual (defScope st) s.heap.objs.size f cdv)) → sp vs H Q E →
      ∃ t, PSs (cxOf (L2N.CX P w) P w K mg base N qual (defScope st) f cdv A outer s H E) (defBody st) t ∧ t { nx := fun _ H' => Q .non H', rt := Q } (L2.start N vs) H) : FnOk P w K mg base (L2N.CX P w) (k + 1) f fd ps sp := by
  obtain ⟨_, _, _, _, _, _, cd, _, _, rfl, at', code⟩ := F.ex
  exact fn_of at' code S len fun A o z G us q x room k => hb cd A o z G us q x room k
theorem ps_rsVN {X : Cx} {W : WX} {C : Addr} {x m : Str} {j : Nat} {p p2 pos pos' : Pos} {bmB : List Value} (hc : X.calm = true) (tk : L2N.Takes X W) (q : PySem.W.excIn X.K C bmB "ValueError.__new__" = true) (gC : X.mg x = some (.ref C)) (kC : PySem.W.keepIn X.K (.ref C) = true) (r : Raises X (.ref C)) (hg : Gl X x)
    (hb : bmB = [.type "ValueError", .type "Exception", .type "BaseException", .type "object"] := by rfl) (hdb : (x == ("__debug__" : Str)) = false := by decide) : PS X (.Raise (some (.Call (.Name x p) [.Constant (.str m) j p2] [] pos)) none pos') (tRs C W) := by
  subst hb
  exact L2N.ps_raise hc tk (L2N.pmk_own PySem.F.excBase_ValueError q gC kC r hg hdb)
theorem ps_rsVH {X : Cx} {W : WX} {C : Addr} {x m : Str} {j : Nat} {p p2 pos pos' : Pos} {bmB : List Value} (hot : L2H.HotC X) (tk : L2.Takes X W) (q : PySem.W.excIn X.K C bmB "ValueError.__new__" = true) (gC : X.mg x = some (.ref C)) (kC : PySem.W.keepIn X.K (.ref C) = true) (r : Raises X (.ref C)) (hg : Gl X x)
    (hb : bmB = [.type "ValueError", .type "Exception", .type "BaseException", .type "object"] := by rfl) (hdb : (x == ("__debug__" : Str)) = false := by decide) : PS X (.Raise (some (.Call (.Name x p) [.Constant (.str m) j p2] [] pos)) none pos') (tRs C W) := by
  subst hb
  exact L2H.ps_raiseH hot tk (L2N.pmk_own PySem.F.excBase_ValueError q gC kC r hg hdb)
/-- try .. except C: without a name -/
def tTryO (K : PySem.W.Frag) (c : Value) (tb : WX → TS) (ts : Addr → Value → Option Addr → TS) (Wo : WX) : TS := fun D z G => tb (wOnly K c ts Wo D) D z G
theorem ps_tryO {K : PySem.W.Frag} {X : Cx} {x : Str} {c : Value} {body su : List Stmt} {b₁ : Stmt} {np pp pp' : Pos} {tb : WX → TS} {ts : Addr → Value → Option Addr → TS} {Wo : WX} (hK : X.K = K) (hstk : X.stack = X.env :: X.outer) (hfm : X.env.frame = some X.env.locals) (hc : Names X x c)
    (hpa : ∀ hd : Option Value, PassesOwnAt (model X.prog X.w) (X.A.mark hd) X.A X.env X.xe) (tk : L2.Takes X Wo)
    (hbd : ∀ (W : WX) (pn : List (Addr × Obj)) (xe : Value → Shared → Prop), L2N.Takes (X.tr pn xe) W → L2.Takes (X.tr pn xe) (L2H.wPass X.K c Wo) → PassesOwn (model X.prog X.w) X.A X.env xe → PSs (X.tr pn xe) body (tb W))
    (hsu : ∀ (a : Addr) (oe : Obj) (k : Value) (d : Option Addr) (pn : List (Addr × Obj)), L2N.Zn k d oe → (∃ fs, oe.data = .fields fs) → L2.Takes (L2H.suiteX X a ((a, oe) :: pn)) Wo → L2H.HotC (L2H.suiteX X a ((a, oe) :: pn)) → PSs (L2H.suiteX X a ((a, oe) :: pn)) (b₁ :: su) (ts a k d)) :
    PS X (.Try body [.ExceptHandler (some (.Name x np)) none (b₁ :: su) pp'] [] [] pp) (tTryO K c tb ts Wo) := hK ▸ L2H.ps_try_onlyX hstk hfm hc hpa tk hbd hsu
theorem w_tryO {K : PySem.W.Frag} {B : Fr} {s : Sl} {M : Ms} {C : Addr} {tb : WX → TS} {ts : Addr → Value → Option Addr → TS} {Wo : WX} {Ξ : Addr → Sl → Ms → Prop} [q0 : XOkC K B Wo Ξ] {nx bk ct : Sl → Ms → Prop} {rt : Dt → Ms → Prop}
    (h : ∀ (B' : Fr) (W : WX), B'.T = fpM M → XOkC K B' W (fun D s' M' => ∃ b, PySem.W.exmOne K (.ref D) (.ref C) = some b ∧ (b = true → ∀ a, WPs K B (ts a (.ref D) none) ⟨nx, rt, bk, ct⟩ s' M') ∧ (b = false → Ξ D s' M')) →
      WPs K B' (tb W) ⟨nx, rt, bk, ct⟩ s M) : WPs K B (tTryO K (.ref C) tb ts Wo) ⟨nx, rt, bk, ct⟩ s M := fun D G H σ ok L S => by
  have L0 : Lay K B G (M ++ []) H := by rw [List.append_nil]; exact L
  have back : ∀ {G' H' : Hp} {M' : Ms}, Lay K ⟨G, H, fpM M⟩ G' M' H' → Lay K B G' M' H' := fun {G' H' M'} L' => by
    have := Lay.back L0 L'
    rwa [List.append_nil] at this
  refine h ⟨G, H, fpM M⟩ (wOnly K (.ref C) ts Wo D) rfl ⟨fun Cx s' M' G' H' σ' L' S' hx => ?_⟩ D G H σ ⟨fun s M G' H' σ k L' x S' => ok.1 s M G' H' σ k (back L') x S', fun v d M G' H' k L' x r => ok.2.1 v d M G' H' k (back L') x r, fun s M G' H' σ k L' x S' => ok.2.2.1 s M G' H' σ k (back L') x S', fun s M G' H' σ k L' x S' => ok.2.2.2 s M G' H' σ k (back L') x S'⟩ L0.enter S
  obtain ⟨b, hb, h1, h2⟩ := hx
  have x : Ex G G' := L'.grown L.sub
  refine ⟨b, hb, fun e a ha => ?_, fun e => q0.h Cx s' M' G' H' σ' (back L') S' (h2 e)⟩
  exact h1 e a _ G' H' _ ⟨fun s M G2 H2 σ2 k L2 x2 S2 => ok.1 _ M G2 H2 _ k L2 (x.trans x2) S2, fun v d M G2 H2 k L2 x2 r => ok.2.1 v d M G2 H2 k L2 (x.trans x2) r, fun s M G2 H2 σ2 k L2 x2 S2 => ok.2.2.1 _ M G2 H2 _ k L2 (x.trans x2) S2, fun s M G2 H2 σ2 k L2 x2 S2 => ok.2.2.2 _ M G2 H2 _ k L2 (x.trans x2) S2⟩ (back L') S'
end Ask
/-! Any text, read. -/
namespace Ask
open PySem L2
def splitC (s : Nat) : List Nat → List (List Nat)
  | [] => [[]]
  | c :: l => if c = s then [] :: splitC s l else match splitC s l with
    | [] => [[c]]
    | p :: ps => (c :: p) :: ps
section
variable {s : Nat} {l a b : List Nat}
theorem splitC_cut : splitC s (s :: l) = [] :: splitC s l := by
  show (if s = s then _ else _) = _
  rw [if_pos rfl]
theorem splitC_ne : ∀ {l : List Nat}, ∃ p ps, splitC s l = p :: ps
  | [] => ⟨[], [], rfl⟩
  | c :: l => by
    unfold splitC
    split
    · exact ⟨_, _, rfl⟩
    · obtain ⟨p, ps, e⟩ := splitC_ne (l := l)
      rw [e]; exact ⟨_, _, rfl⟩
theorem splitC_on {c : Nat} (h : c ≠ s) {p : List Nat} {ps : List (List Nat)} (e : splitC s l = p :: ps) : splitC s (c :: l) = (c :: p) :: ps := by
  show (if c = s then _ else match splitC s l with | [] => [[c]] | p :: ps => (c :: p) :: ps) = _
  rw [if_neg h, e]
theorem joinL_cons {S p : List Nat} {ps : List (List Nat)} (h : ps ≠ []) : TL.joinL S (p :: ps) = p ++ (S ++ TL.joinL S ps) := by
  obtain ⟨q, r, rfl⟩ := List.exists_cons_of_ne_nil h
  rfl
theorem splitC_join : ∀ {l : List Nat}, TL.joinL [s] (splitC s l) = l
  | [] => rfl
  | c :: l => by
    obtain ⟨p, ps, e⟩ := splitC_ne (s := s) (l := l)
    have ih := splitC_join (l := l)
    by_cases h : c = s
    · subst h
      rw [splitC_cut, joinL_cons (by rw [e]; simp), ih]; rfl
    · rw [splitC_on h e]
      rw [e] at ih
      cases ps with
      | nil => show c :: p = c :: l; rw [show p = l from ih]
      | cons q r =>
        rw [joinL_cons (by simp)] at ih ⊢
        rw [List.cons_append, ih]
theorem splitC_sub : ∀ {l : List Nat}, ∀ p ∈ splitC s l, p.Sublist l
  | [], p, h => by rw [List.mem_singleton.mp h]; exact List.Sublist.refl _
  | c :: l, p, h => by
    obtain ⟨q, qs, e⟩ := splitC_ne (s := s) (l := l)
    have ih := splitC_sub (l := l)
    by_cases hc : c = s
    · subst hc
      rw [splitC_cut] at h
      rcases List.mem_cons.mp h with rfl | h
      · exact List.nil_sublist _
      · exact (ih p h).cons _
    · rw [splitC_on hc e] at h
      rcases List.mem_cons.mp h with rfl | h
      · exact (ih q (by rw [e]; simp)).cons₂ _
      · exact (ih p (by rw [e]; simp [h])).cons _
theorem splitC_no : ∀ {l : List Nat}, ∀ p ∈ splitC s l, s ∉ p
  | [], p, h => by rw [List.mem_singleton.mp h]; simp
  | c :: l, p, h => by
    obtain ⟨q, qs, e⟩ := splitC_ne (s := s) (l := l)
    have ih := splitC_no (l := l)
    by_cases hc : c = s
    · subst hc
      rw [splitC_cut] at h
      rcases List.mem_cons.mp h with rfl | h
      · simp
      · exact ih p h
    · rw [splitC_on hc e] at h
      rcases List.mem_cons.mp h with rfl | h
      · intro z
        rcases List.mem_cons.mp z with z | z
        · exact hc z.symm
        · exact ih q (by rw [e]; simp) z
      · exact ih p (by rw [e]; simp [h])
theorem splitC_len : ∀ {l : List Nat}, (splitC s l).length = l.count s + 1
  | [] => rfl
  | c :: l => by
    obtain ⟨q, qs, e⟩ := splitC_ne (s := s) (l := l)
    have ih := splitC_len (l := l)
    by_cases hc : c = s
    · subst hc
      rw [splitC_cut, List.length_cons, ih, List.count_cons_self]
    · rw [splitC_on hc e, List.count_cons_of_ne hc, ← ih, e]; rfl
theorem splitC_app : ∀ {a : List Nat}, splitC s (a ++ s :: b) = splitC s a ++ splitC s b
  | [] => splitC_cut
  | c :: a => by
    have ih := splitC_app (a := a)
    obtain ⟨q, qs, e⟩ := splitC_ne (s := s) (l := a)
    rw [List.cons_append]
    by_cases hc : c = s
    · subst hc; rw [splitC_cut, splitC_cut, ih, List.cons_append]
    · rw [e, List.cons_append] at ih
      rw [splitC_on hc ih, splitC_on hc e]; rfl
theorem splitC_glue : ∀ {a : List Nat}, ∃ xs x, splitC s a = xs ++ [x] ∧ ∀ b y ys, splitC s b = y :: ys → splitC s (a ++ b) = xs ++ (x ++ y) :: ys
  | [] => ⟨[], [], rfl, fun b y ys e => e⟩
  | c :: a => by
    obtain ⟨xs, x, e1, e2⟩ := splitC_glue (a := a)
    by_cases hc : c = s
    · subst hc
      refine ⟨[] :: xs, x, by rw [splitC_cut, e1]; rfl, fun b y ys e => ?_⟩
      rw [List.cons_append, splitC_cut, e2 b y ys e]; rfl
    · cases xs with
      | nil =>
        refine ⟨[], c :: x, splitC_on hc e1, fun b y ys e => ?_⟩
        rw [List.cons_append]; exact splitC_on hc (e2 b y ys e)
      | cons z zs =>
        refine ⟨(c :: z) :: zs, x, splitC_on hc e1, fun b y ys e => ?_⟩
        rw [List.cons_append]; exact splitC_on hc (e2 b y ys e)
theorem splitC_clean : ∀ {l : List Nat}, s ∉ l → splitC s l = [l]
  | [], _ => rfl
  | c :: l, h => splitC_on (fun z => h (by simp [z])) (splitC_clean fun z => h (by simp [z]))
theorem splitC_of : ∀ {ps : List (List Nat)}, ps ≠ [] → (∀ p ∈ ps, s ∉ p) → splitC s (TL.joinL [s] ps) = ps
  | [], h, _ => absurd rfl h
  | [p], _, h => splitC_clean (h p (by simp))
  | p :: q :: r, _, h => by
    rw [joinL_cons (by simp)]
    show splitC s (p ++ s :: TL.joinL [s] (q :: r)) = _
    rw [splitC_app, splitC_clean (h p (by simp)), splitC_of (by simp) fun x hx => h x (List.mem_cons_of_mem _ hx)]; rfl
end
def mkS (l : List Nat) : Str := ⟨l.toArray⟩
theorem tl_mkS {l : List Nat} : TL.tl (mkS l) = l := by simp [mkS, TL.tl]
theorem mkS_tl {t : Str} : mkS (TL.tl t) = t := TL.ext_tl tl_mkS
theorem split_any {y t : Str} {s : Nat} (hy : TL.tl y = [s]) (hk : (y.cps.all fun x => decide (x < 256)) = true) : Txt.split t y = (splitC s (TL.tl t)).map mkS := by
  have e : t = Txt.join y ((splitC s (TL.tl t)).map mkS) := TL.ext_tl (by
    rw [tl_txt, hy, List.map_map]
    rw [show (TL.tl ∘ mkS) = id from funext fun l => tl_mkS, List.map_id, splitC_join])
  obtain ⟨p, ps, e2⟩ := splitC_ne (s := s) (l := TL.tl t)
  have := TL.split_join hy hk (parts := (splitC s (TL.tl t)).map mkS) (by rw [e2]; simp) fun p hp => by
    obtain ⟨l, hl, rfl⟩ := List.mem_map.mp hp
    rw [tl_mkS]; exact splitC_no l hl
  rwa [← e] at this
theorem wordsQ_eq {t : Str} : Txt.split t (Str.ofString " ") = (splitC 32 (TL.tl t)).map mkS := split_any sp1 (by decide +kernel)
theorem rowsQ_eq {t : Str} : Txt.split t (Str.ofString "\n") = (splitC 10 (TL.tl t)).map mkS := split_any nl1 (by decide +kernel)
/-! ### numbers -/
def valC (w : List Nat) : Nat := w.foldl (fun a c => 10 * a + (c - 48)) 0
def numC (w : List Nat) : Option Int := if (1 ≤ w.length ∧ w.length ≤ 3) ∧ (w.head? = some 48 → w = [48]) ∧ ∀ c ∈ w, 48 ≤ c ∧ c ≤ 57 then some (valC w : Int) else none
theorem valC_snoc {w : List Nat} {c : Nat} : valC (w ++ [c]) = 10 * valC w + (c - 48) := by unfold valC; rw [List.foldl_append]; rfl
theorem valC_num (n : Nat) : valC (TL.numL n) = n := by
  induction n using Nat.strongRecOn with
  | _ n ih =>
    by_cases h : n < 10
    · rw [TL.numL_lt h]
      show 10 * 0 + (48 + n - 48) = n
      omega
    · rw [TL.numL_step (by omega), valC_snoc, ih (n / 10) (by omega)]; omega
theorem numC_num {n : Nat} (h : n < 1000) : numC (TL.numL n) = some (n : Int) := by
  have h1 := TL.numL_ne n
  have h2 : (TL.numL n).length ≤ 3 := TL.numL_len (by decide) (by omega)
  unfold numC
  rw [if_pos ⟨⟨List.length_pos_iff.mpr h1, h2⟩, fun e => by rw [num_head e]; rfl, fun c hc => TL.numL_digits n c hc⟩, valC_num]
theorem numC_some {w : List Nat} {x : Int} (h : numC w = some x) : 0 ≤ x ∧ x < 1000 ∧ w = TL.numL x.toNat := by
  unfold numC at h
  split at h
  · rename_i k
    obtain ⟨⟨k1, k2⟩, k3, k4⟩ := k
    cases h
    rw [Int.toNat_natCast]
    have dig : ∀ c ∈ w, ∃ d, d < 10 ∧ c = 48 + d := fun c hc => ⟨c - 48, by have := k4 c hc; omega, by have := k4 c hc; omega⟩
    match w, k1, k2, k3, dig with
    | [a], _, _, k3, dig =>
      obtain ⟨d, hd, rfl⟩ := dig a (by simp)
      have e : valC [48 + d] = d := by show 10 * 0 + (48 + d - 48) = d; omega
      rw [e, TL.numL_lt hd]
      exact ⟨by omega, by omega, rfl⟩
    | [a, b], _, _, k3, dig =>
      obtain ⟨d, hd, rfl⟩ := dig a (by simp)
      obtain ⟨f, hf, rfl⟩ := dig b (by simp)
      have hd0 : d ≠ 0 := fun z => by subst z; have := k3 rfl; simp at this
      have e : valC [48 + d, 48 + f] = 10 * d + f := by show 10 * (10 * 0 + (48 + d - 48)) + (48 + f - 48) = _; omega
      rw [e, TL.numL_step (by omega), show (10 * d + f) / 10 = d by omega, show (10 * d + f) % 10 = f by omega, TL.numL_lt hd]
      exact ⟨by omega, by omega, rfl⟩
    | [a, b, c], _, _, k3, dig =>
      obtain ⟨d, hd, rfl⟩ := dig a (by simp)
      obtain ⟨f, hf, rfl⟩ := dig b (by simp)
      obtain ⟨g, hg, rfl⟩ := dig c (by simp)
      have hd0 : d ≠ 0 := fun z => by subst z; have := k3 rfl; simp at this
      have e : valC [48 + d, 48 + f, 48 + g] = 10 * (10 * d + f) + g := by show 10 * (10 * (10 * 0 + (48 + d - 48)) + (48 + f - 48)) + (48 + g - 48) = _; omega
      rw [e, TL.numL_step (by omega), show (10 * (10 * d + f) + g) / 10 = 10 * d + f by omega, show (10 * (10 * d + f) + g) % 10 = g by omega, TL.numL_step (by omega), show (10 * d + f) / 10 = d by omega, show (10 * d + f) % 10 = f by omega, TL.numL_lt hd]
      exact ⟨by omega, by omega, rfl⟩
  · cases h
def numQ (w : Str) : Option Int := numC (TL.tl w)
def resN (X : Addr) (o : Option Int) : Except Addr Dt := match o with
  | some x => .ok (.int x)
  | none => .error X
theorem numQ_some {w : Str} {x : Int} (h : numQ w = some x) : (0 ≤ x ∧ x < 1000) ∧ w = numI x := by
  obtain ⟨h1, h2, h3⟩ := numC_some h
  refine ⟨⟨h1, h2⟩, TL.ext_tl ?_⟩
  obtain ⟨n, rfl⟩ : ∃ n : Nat, x = n := ⟨x.toNat, by omega⟩
  rw [tl_numI, h3, Int.toNat_natCast]
theorem numQ_num {x : Int} (h : 0 ≤ x ∧ x < 1000) : numQ (numI x) = some x := by
  obtain ⟨n, rfl⟩ : ∃ n : Nat, x = n := ⟨x.toNat, by omega⟩
  unfold numQ
  rw [tl_numI]; exact numC_num (by omega)
/-! ### a text, read -/
def headQ (r : Str) : Option Int := match Txt.split r (Str.ofString " ") with
  | [a, b] => if a = Str.ofString "doors" then numQ b else none
  | _ => none
def rowOk (r : Str) : Prop := (gt (Txt.split r (Str.ofString " ")) 0 = Str.ofString "lit" ∨ gt (Txt.split r (Str.ofString " ")) 0 = Str.ofString "dark") ∧ ∀ w ∈ (Txt.split r (Str.ofString " ")).drop 1, numQ w ≠ none
def numD (w : Str) : Int := (numQ w).getD 0
def rowsT (t : Str) : List Str := (Txt.split t (Str.ofString "\n")).drop 1
def dT (t : Str) : Int := (headQ (gt (Txt.split t (Str.ofString "\n")) 0)).getD 0
def wRow (r : Str) : List Int := ((Txt.split r (Str.ofString " ")).drop 1).map numD
def lRow (r : Str) : Bool := decide (gt (Txt.split r (Str.ofString " ")) 0 = Str.ofString "lit")
def wT (t : Str) : List (List Int) := (rowsT t).map wRow
def lT (t : Str) : List Bool := (rowsT t).map lRow
def ReadOk (t : Str) : Prop := headQ (gt (Txt.split t (Str.ofString "\n")) 0) ≠ none ∧ (∀ r ∈ rowsT t, rowOk r) ∧ HouseOk (dT t) (wT t) (lT t)
end Ask
/-! The parts of a text. -/
namespace Ask
open PySem L2
instance {r : Str} : Decidable (rowOk r) := inferInstanceAs (Decidable (_ ∧ _))
instance {t : Str} : Decidable (ReadOk t) := inferInstanceAs (Decidable (_ ∧ _ ∧ _))
theorem part_in {s : Nat} {t r : Str} (h : r ∈ (splitC s (TL.tl t)).map mkS) : (TL.tl r).Sublist (TL.tl t) := by
  obtain ⟨l, hl, rfl⟩ := List.mem_map.mp h
  rw [tl_mkS]; exact splitC_sub l hl
theorem rows_in {t r : Str} (h : r ∈ Txt.split t (Str.ofString "\n")) : (TL.tl r).Sublist (TL.tl t) := part_in (by rw [rowsQ_eq] at h; exact h)
theorem words_in {t r : Str} (h : r ∈ Txt.split t (Str.ofString " ")) : (TL.tl r).Sublist (TL.tl t) := part_in (by rw [wordsQ_eq] at h; exact h)
theorem sub_len {r t : Str} (h : (TL.tl r).Sublist (TL.tl t)) : r.length ≤ t.length := by rw [len_str, len_str]; exact h.length_le
theorem rows_len {t : Str} : (Txt.split t (Str.ofString "\n")).length = (TL.tl t).count 10 + 1 := by rw [rowsQ_eq, List.length_map, splitC_len]
theorem words_len {t : Str} : (Txt.split t (Str.ofString " ")).length = (TL.tl t).count 32 + 1 := by rw [wordsQ_eq, List.length_map, splitC_len]
theorem rows_few {t : Str} : 1 ≤ (Txt.split t (Str.ofString "\n")).length ∧ (Txt.split t (Str.ofString "\n")).length ≤ t.length + 1 := by
  rw [rows_len, len_str]
  have : (TL.tl t).count 10 ≤ (TL.tl t).length := List.count_le_length
  omega
theorem words_few {t : Str} : 1 ≤ (Txt.split t (Str.ofString " ")).length ∧ (Txt.split t (Str.ofString " ")).length ≤ t.length + 1 := by
  rw [words_len, len_str]
  have : (TL.tl t).count 32 ≤ (TL.tl t).length := List.count_le_length
  omega
theorem headQ_two {r : Str} {a b : Str} (h : Txt.split r (Str.ofString " ") = [a, b]) : headQ r = if a = Str.ofString "doors" then numQ b else none := by
  unfold headQ; rw [h]
theorem headQ_not {r : Str} (h : (Txt.split r (Str.ofString " ")).length ≠ 2) : headQ r = none := by
  unfold headQ
  match Txt.split r (Str.ofString " "), h with
  | [], _ => rfl
  | [_], _ => rfl
  | [_, _], h => exact absurd rfl h
  | _ :: _ :: _ :: _, _ => rfl
end Ask
/-! The walk over a comprehension whose step may raise. -/
namespace Ask
open PySem PySem.Spec PyProof.Rows L2
def tLcX (wi : TI) (g : TG) (te : TE) (vs : List Nat) : TE := tLc wi g tYes te vs
theorem pe_lcXK {X : Cx} {E0 : XK} {scope : Scope} {elt tg iter : Expr} {own : List (Str × Nat)} {pos : Pos} {wi : TI} {g : TG} {te : TE} (hstk : X.stack = X.env :: X.outer) (hfm : X.env.frame = some X.env.locals) (tk : L2.Takes X (fun c d _ G => E0 c d G)) (hc : X.calm = true) (hN : X.N.Nodup) (hi : PI X tg iter wi) (ok : BlkOk X.N X.env.scope scope own)
    (hg : ∀ (z : Shared) (G : Hp) (C : Addr) (cl : List (Str × Addr)) (fs : List Addr) (xe : Value → Shared → Prop), PG ((X.blk z G scope (compEnvC scope cl C X.env) fs).wish xe) tg g)
    (he : ∀ (z : Shared) (G : Hp) (C : Addr) (cl : List (Str × Addr)) (fs : List Addr) (xe : Value → Shared → Prop), (∀ r, PassesAt (L2.CX X.prog X.w) ((X.blk z G scope (compEnvC scope cl C X.env) fs).wish xe) r (WE (fun c d _ G => E0 c d G) r)) → PE ((X.blk z G scope (compEnvC scope cl C X.env) fs).wish xe) elt te)
    (hs : ∀ x, foldedSetIterable iter X.env x = pure x := by intro _; rfl) : PE X (.ListComp elt [⟨tg, iter, [], 0⟩] scope pos) (tLcX wi g te (own.map (·.2))) := pe_lcX hstk hfm tk hc hN hi ok hg he hs
section
variable {K : PySem.W.Frag} {B : Fr} {s : Sl} {M : Ms} {Φ : Dt → Ms → Prop} {tl te : TE} {vs : List Nat} {j : Nat}
/-- what each step makes; that it came back tells something of its item -/
def LcX (K : PySem.W.Frag) (B : Fr) (te : TE) (s : Sl) (vs : List Nat) (j : Nat) (ds : List Dt) (M1 : Ms) (fin : List Dt → Prop) : Prop :=
  j ∈ vs ∧ ds.length < 16777216 ∧ ∃ (g : Dt → Dt) (P : Dt → Prop), (∀ d p acc, d ∈ ds → p ∉ B.T → EvW K B te ((wipeS s vs).set j (some d)) (.one p (.lst acc) :: M1) fun e M3 => M3 = .one p (.lst acc) :: M1 ∧ e = g d ∧ P d) ∧ ((∀ d ∈ ds, P d) → fin (ds.map g))
theorem e_lcX (h : EvW K B tl s M fun x M1 => ∃ ds, SeqD M1 ds x ∧ LcX K B te s vs j ds M1 fun es => Φ (.lst es) M1) : EvW K B (tLcX (iList K tl) (gName j) te vs) s M Φ := fun G H σ Q L S q =>
  h G H σ _ L S fun v x M1 G1 H1 L1 e1 r1 h' => by
    obtain ⟨ds, hst, hj, hz, g, P, ht, hd⟩ := h'
    obtain ⟨a, xs, rfl, hx, _⟩ := hst.at L1 r1
    have S1 := S.mono e1
    let I : Nat → Addr → Hp → Prop := fun i D H => (∀ d ∈ ds.take i, P d) ∧ Cws K B G1 D M1 ((ds.take i).map g) H
    refine ⟨a, rfl, ⟨xs, hx⟩, fun D hD => ⟨fun i m H => m = ds.length - i ∧ i ≤ ds.length ∧ I i D H, ⟨_, rfl, Nat.zero_le _, by simp, G1, ?_, Ex.refl _⟩, ?_⟩⟩
    · exact L1.laidM (c := .lst []) hD ⟨[], upd_same, .nil⟩
    · have hT : D ∉ B.T := fun z => L1.freshM hD (L1.tin D z)
      rintro i m H2 ⟨rfl, hi, hp, c⟩
      obtain ⟨G2, L2, x2⟩ := id c
      obtain ⟨a', vs2, e, hl2, t2⟩ := (hst.more (e := .one D (.lst ((ds.take i).map g)))).at L2 (r1.mono x2)
      cases e
      by_cases qi : i < ds.length
      · have hdi : ds[i]? = some ds[i] := by simp [qi]
        obtain ⟨v, hv, rv⟩ := t2.get hdi
        refine .inr ⟨⟨vs2, v, hl2, hv⟩, fun H' => I (i + 1) D H', fun H' p => ⟨ds.length - (i + 1), by omega, rfl, qi, p⟩, fun y H' hy => ?_⟩
        obtain ⟨rfl, hy⟩ := hy
        have ey : y = v := Option.some.inj ((hy vs2 hl2).symm.trans hv)
        subst ey
        refine ⟨wipe_back σ hj _, ?_⟩
        change te _ _ _
        refine ht ds[i] D ((ds.take i).map g) (by simp) hT G2 H' _ _ L2 (((S1.mono x2).wipe vs).set j rv) fun y3 d3 M3 G3 H3 L3 e3 r3 k3 => ?_
        obtain ⟨rfl, rfl, hP⟩ := k3
        obtain ⟨ws, hw, tw⟩ := L3.ats _ List.mem_cons_self
        refine ⟨ws, hw, sl_lt (by rw [tw.len, List.length_map, List.length_take]; omega), fun d hd2 => ?_, G3, ?_, x2.trans e3⟩
        · rw [take_snoc hdi] at hd2
          rcases List.mem_append.mp hd2 with z | z
          · exact hp d z
          · rw [List.mem_singleton.mp z]; exact hP
        · have := L3.change (o := .lst (ws ++ [y3])) (c' := .lst ((ds.take i).map g ++ [g ds[i]])) ⟨_, upd_same, tw.append (.one r3)⟩
          rw [take_snoc hdi, List.map_append]
          exact this
      · have e : i = ds.length := by omega
        subst e
        rw [List.take_length] at hp c
        exact .inl ⟨⟨vs2, hl2, by rw [t2.len]; exact Nat.le_refl _⟩, lc_end hT c (lc_frz hT (hd hp)) fun v d M' G' H' L' e' => q v d M' G' H' L' (e1.trans e')⟩
instance s_lcX : Stp (EvW K B (tLcX (iList K tl) (gName j) te vs) s M Φ) (EvW K B tl s M fun x M1 => ∃ ds, SeqD M1 ds x ∧ LcX K B te s vs j ds M1 fun es => Φ (.lst es) M1) := ⟨e_lcX⟩
/-- over a list of l's -/
theorem lcX_lst {α : Type} {l : List α} {f : α → Dt} (inj : ∀ a b, f a = f b → a = b) [Inhabited α] (g : α → Dt) (P : α → Prop) {fin : List Dt → Prop} {M1 : Ms} (hj : j ∈ vs) (hz : l.length < 16777216)
    (hs : ∀ a p acc, a ∈ l → p ∉ B.T → EvW K B te ((wipeS s vs).set j (some (f a))) (.one p (.lst acc) :: M1) fun e M3 => M3 = .one p (.lst acc) :: M1 ∧ e = g a ∧ P a) (k : (∀ a ∈ l, P a) → fin (l.map g)) : LcX K B te s vs j (l.map f) M1 fin := by
  classical
  let b : Dt → α := fun d => if h : ∃ a, f a = d then h.choose else default
  have hb : ∀ a, b (f a) = a := fun a => by
    have h : ∃ x, f x = f a := ⟨a, rfl⟩
    show (if h : ∃ x, f x = f a then h.choose else default) = a
    rw [dif_pos h]
    exact inj _ _ h.choose_spec
  refine ⟨hj, by rw [List.length_map]; exact hz, fun d => g (b d), fun d => P (b d), fun d p acc hd hp => ?_, fun h => ?_⟩
  · obtain ⟨a, ha, rfl⟩ := List.mem_map.mp hd
    dsimp only
    rw [hb]
    exact hs a p acc ha hp
  · rw [List.map_map, show l.map ((fun d => g (b d)) ∘ f) = l.map g from List.map_congr_left fun a _ => by show g (b (f a)) = g a; rw [hb]]
    refine k fun a ha => ?_
    have := h (f a) (List.mem_map.mpr ⟨a, ha, rfl⟩)
    dsimp only at this
    rwa [hb] at this
end
end Ask
/-! Rows of words, owned. -/
namespace Ask
open PySem L2
section
variable {K : PySem.W.Frag} {B : Fr} {s : Sl} {M : Ms} {Φ : Dt → Ms → Prop} {t : TA}
instance s_lstBt : Stp (EvW K B (tMany (tLst (tCons (tLst t) tNil))) s M Φ) (EvA K B t s M fun xs M1 => Pre (xs.length < 16777216) (∀ p q, p ∉ B.T → q ∉ B.T → Φ (.ref p) (.one p (.lst (refs [q])) :: .many [q] [xs] :: M1))) := ⟨fun k =>
  e_lstM (B := B) (a_cons (e_lstM (a_mono k fun xs M1 z => ⟨z.1, fun q hq => a_lay (M' := .many [q] [xs] :: M1) (fun G H L => Lay.merge (L.block0.perm (List.Perm.swap _ _ _))) (a_nil ⟨by show 1 < _; decide, fun p hp => z.2 p q hp hq⟩)⟩)))⟩
theorem lay_put1 {x : Ent} {ps : List Addr} {rows : List (List Dt)} {q : Addr} {r : List Dt} {i : Nat} (hi : i < ps.length) (hps : ∀ a ∈ ps, a ∉ B.T) : ∀ G H, Lay K B G (.one q (.lst r) :: x :: .many ps rows :: M) H → Lay K B G (x :: .many (ps.set i q) (rows.set i r) :: M) H := fun G H L =>
  (Lay.swapRow hi hps (L.perm ((List.perm_middle (a := .many ps rows) (l₁ := [x]) (l₂ := M)).cons _))).perm (List.perm_middle (a := .many (ps.set i q) (rows.set i r)) (l₁ := [x]) (l₂ := M)).symm
end
/-- the words of a house's text -/
def wordsH (doors : Int) (ways : List (List Int)) (lamps : List Bool) : List (List Str) := [Str.ofString "doors", numI doors] :: (List.range ways.length).map fun i : Nat => lampS (gt lamps (i : Int)) :: (gt ways (i : Int)).map numI
def strRows (W : List (List Str)) : List (List Dt) := W.map fun r => r.map Dt.str
end Ask
/-! A text so many times. -/
namespace Ask
open PySem PySem.Spec PyProof.Rows L2
def rRepS : R2 := fun x y H Q => ∃ a k, x = .str a ∧ y = .int k ∧ a.length ≤ 16 ∧ (0 ≤ k ∧ k ≤ 1000000) ∧ Q (.str (Txt.mul a k)) H
theorem o_rep {X : Cx} : OpR X (binaryOp .Mult) rRepS := by
  intro ps z r G x y v u Q I rx ry h
  obtain ⟨a, k, rfl, rfl, h1, h2, q⟩ := h
  obtain ⟨t, rfl⟩ := rx
  obtain ⟨t2, rfl⟩ := ry
  exact PySem.W.KXi.mul rfl h1 (by omega) (by omega) fun t' k' _ _ => ⟨.str (Txt.mul a k), G, I.tok _, ⟨_, rfl⟩, q⟩
section
variable {K : PySem.W.Frag} {B : Fr} {s : Sl} {M : Ms} {Φ : Dt → Ms → Prop} {a : Str} {k : Int}
instance s_repS : Stp (Op2 K B rRepS (.str a) (.int k) M Φ) (Pre (a.length ≤ 16 ∧ 0 ≤ k ∧ k ≤ 1000000) (Φ (.str (Txt.mul a k)) M)) := ⟨fun z => fun G H v w Q L r1 r2 q => ⟨a, k, r1.strOf, r2.intOf, z.1.1, z.1.2, q _ _ M G H L (Ex.refl G) (.str _) z.2⟩⟩
end
theorem tl_nines {k : Int} : TL.tl (Txt.mul (Str.ofString "9") k) = List.replicate k.toNat 57 := by
  rw [show Str.ofString "9" = ⟨#[57]⟩ by decide +kernel]
  exact mul_one_list 57 k
def oddL (figures : Str) (cell rooms : Int) : List Str := [Str.ofString "0" ++ figures, Str.ofString "00", Str.ofString "+" ++ figures, Str.ofString "-1", figures ++ Str.ofString "a", Str.ofString "a", Str.ofString "", numI rooms, Str.ofString "400", Str.ofString "4000",
  figures ++ Str.ofString "." ++ figures, Txt.mul (Str.ofString "9") (4 + cell / 14 % 4397), Str.ofString "0x1", Str.ofString "1_0"]
def oddS (cell : Int) (figures : Str) (rooms : Int) : Str := gt (oddL figures cell rooms) (cell % 14)
end Ask
/-! Which texts write no house. -/
namespace Ask
open PySem L2
def textW (W : List (List Str)) : Str := Txt.join (Str.ofString "\n") (W.map (Txt.join (Str.ofString " ")))
def CleanW (w : Str) : Prop := ∀ c ∈ TL.tl w, c ≠ 32 ∧ c ≠ 10 ∧ c < 1000
def Clean (W : List (List Str)) : Prop := ∀ ws ∈ W, ws ≠ [] ∧ ∀ w ∈ ws, CleanW w
theorem words_row {ws : List Str} (h : ws ≠ []) (k : ∀ w ∈ ws, CleanW w) : Txt.split (Txt.join (Str.ofString " ") ws) (Str.ofString " ") = ws :=
  TL.split_join sp1 (by decide +kernel) h fun p hp z => (k p hp 32 z).1 rfl
theorem codes_row {ws : List Str} (k : ∀ w ∈ ws, CleanW w) : ∀ c ∈ TL.tl (Txt.join (Str.ofString " ") ws), c ≠ 10 ∧ c < 1000 := fun c hc => by
  have hc : c ∈ TL.tl (Txt.join " " ws) := hc
  rw [tl_txt, sp1] at hc
  rcases mem_joinL hc with q | ⟨p, hp, q⟩
  · have : c = 32 := by simpa using q
    omega
  · obtain ⟨z, hz, rfl⟩ := List.mem_map.mp hp
    exact (k z hz c q).2
theorem rows_text {W : List (List Str)} (h : W ≠ []) (k : Clean W) : Txt.split (textW W) (Str.ofString "\n") = W.map (Txt.join (Str.ofString " ")) :=
  TL.split_join nl1 (by decide +kernel) (by simpa using h) fun p hp z => by
    obtain ⟨ws, hws, rfl⟩ := List.mem_map.mp hp
    exact (codes_row (k ws hws).2 10 z).1 rfl
theorem codes_text {W : List (List Str)} (k : Clean W) : ∀ c ∈ TL.tl (textW W), c < 1000 := fun c hc => by
  have hc : c ∈ TL.tl (Txt.join "\n" (W.map (Txt.join (Str.ofString " ")))) := hc
  rw [tl_txt, nl1] at hc
  rcases mem_joinL hc with q | ⟨p, hp, q⟩
  · have : c = 10 := by simpa using q
    omega
  · obtain ⟨z, hz, rfl⟩ := List.mem_map.mp hp
    obtain ⟨ws, hws, rfl⟩ := List.mem_map.mp hz
    exact (codes_row (k ws hws).2 c q).2
def rowW (ws : List Str) : Prop := (gt ws 0 = Str.ofString "lit" ∨ gt ws 0 = Str.ofString "dark") ∧ ∀ w ∈ ws.drop 1, numQ w ≠ none
theorem rowOk_iff {ws : List Str} (h : ws ≠ []) (k : ∀ w ∈ ws, CleanW w) : rowOk (Txt.join (Str.ofString " ") ws) ↔ rowW ws := by
  unfold rowOk rowW
  rw [words_row h k]
theorem wRow_eq {ws : List Str} (h : ws ≠ []) (k : ∀ w ∈ ws, CleanW w) : wRow (Txt.join (Str.ofString " ") ws) = (ws.drop 1).map numD := by
  unfold wRow
  rw [words_row h k]
theorem lRow_eq {ws : List Str} (h : ws ≠ []) (k : ∀ w ∈ ws, CleanW w) : lRow (Txt.join (Str.ofString " ") ws) = decide (gt ws 0 = Str.ofString "lit") := by
  unfold lRow
  rw [words_row h k]
section
variable {h : List Str} {R : List (List Str)}
theorem rowsT_eq (k : Clean (h :: R)) : rowsT (textW (h :: R)) = R.map (Txt.join (Str.ofString " ")) := by
  unfold rowsT
  rw [rows_text (by simp) k]; rfl
theorem head_eq (k : Clean (h :: R)) : gt (Txt.split (textW (h :: R)) (Str.ofString "\n")) 0 = Txt.join (Str.ofString " ") h := by
  rw [rows_text (by simp) k]; rfl
theorem wT_eq (k : Clean (h :: R)) : wT (textW (h :: R)) = R.map fun ws => (ws.drop 1).map numD := by
  unfold wT
  rw [rowsT_eq k, List.map_map]
  exact List.map_congr_left fun ws hws => wRow_eq (k ws (by simp [hws])).1 (k ws (by simp [hws])).2
theorem lT_eq (k : Clean (h :: R)) : lT (textW (h :: R)) = R.map fun ws => decide (gt ws 0 = Str.ofString "lit") := by
  unfold lT
  rw [rowsT_eq k, List.map_map]
  exact List.map_congr_left fun ws hws => lRow_eq (k ws (by simp [hws])).1 (k ws (by simp [hws])).2
theorem bad_row (k : Clean (h :: R)) {ws : List Str} (hm : ws ∈ R) (hb : ¬ rowW ws) : ¬ ReadOk (textW (h :: R)) := fun z => by
  have := z.2.1 (Txt.join (Str.ofString " ") ws) (by rw [rowsT_eq k]; exact List.mem_map.mpr ⟨ws, hm, rfl⟩)
  exact hb ((rowOk_iff (k ws (by simp [hm])).1 (k ws (by simp [hm])).2).mp this)
theorem bad_len (k : Clean (h :: R)) {ws : List Str} (hm : ws ∈ R) {d : Int} (hd : headQ (Txt.join (Str.ofString " ") h) = some d) (hb : (ws.length : Int) ≠ d + 1) : ¬ ReadOk (textW (h :: R)) := fun z => by
  have hdT : dT (textW (h :: R)) = d := by unfold dT; rw [head_eq k, hd]; rfl
  have := (z.2.2.2.2.2.2.2 ((ws.drop 1).map numD) (by rw [wT_eq k]; exact List.mem_map.mpr ⟨ws, hm, rfl⟩)).1
  rw [hdT, List.length_map, List.length_drop] at this
  have h1 := z.2.2.1
  rw [hdT] at h1
  omega
theorem bad_out (k : Clean (h :: R)) {ws : List Str} (hm : ws ∈ R) {w : Str} (hw : w ∈ ws.drop 1) {x : Int} (hx : numQ w = some x) (hb : (R.length : Int) ≤ x) : ¬ ReadOk (textW (h :: R)) := fun z => by
  have := (z.2.2.2.2.2.2.2 ((ws.drop 1).map numD) (by rw [wT_eq k]; exact List.mem_map.mpr ⟨ws, hm, rfl⟩)).2 x (List.mem_map.mpr ⟨w, hw, by unfold numD; rw [hx]; rfl⟩)
  rw [wT_eq k, List.length_map] at this
  omega
theorem bad_head (k : Clean (h :: R)) (hb : ∀ d, headQ (Txt.join (Str.ofString " ") h) = some d → ¬ (1 ≤ d ∧ d ≤ 6)) : ¬ ReadOk (textW (h :: R)) := fun z => by
  have h1 := z.1
  rw [head_eq k] at h1
  cases e : headQ (Txt.join (Str.ofString " ") h) with
  | none => exact h1 e
  | some d =>
    have hdT : dT (textW (h :: R)) = d := by unfold dT; rw [head_eq k, e]; rfl
    refine hb d e ?_
    rw [← hdT]
    exact ⟨z.2.2.1, z.2.2.2.1⟩
end
/-! ### the text of a house -/
section
variable {doors : Int} {ways : List (List Int)} {lamps : List Bool}
theorem clean_num {x : Int} (h : 0 ≤ x ∧ x < 1000) : CleanW (numI x) := fun c hc => by
  have := (numI_facts h).2.2 c hc
  omega
theorem clean_lamp {b : Bool} : CleanW (lampS b) := fun c hc => by
  have := lampS_facts.2 c hc
  omega
theorem clean_doors : CleanW (Str.ofString "doors") := by unfold CleanW; decide +kernel
theorem wordsH_clean (hk : HouseOk doors ways lamps) : Clean (wordsH doors ways lamps) := fun ws hws => by
  have h1 := hk.1
  have h2 := hk.2.1
  rcases List.mem_cons.mp hws with rfl | hws
  · refine ⟨by simp, fun w hw => ?_⟩
    rcases List.mem_cons.mp hw with rfl | hw
    · exact clean_doors
    · rw [List.mem_singleton.mp hw]; exact clean_num ⟨by omega, by omega⟩
  · obtain ⟨i, hi, rfl⟩ := List.mem_map.mp hws
    have hi := List.mem_range.mp hi
    refine ⟨by simp, fun w hw => ?_⟩
    rcases List.mem_cons.mp hw with rfl | hw
    · exact clean_lamp
    · obtain ⟨x, hx, rfl⟩ := List.mem_map.mp hw
      exact clean_num (ways_short hk (i := (i : Int)) (by omega) (by omega) x hx)
theorem head_doors {d : Int} (h : 1 ≤ d ∧ d ≤ 6) : headQ (Txt.join (Str.ofString " ") [Str.ofString "doors", numI d]) = some d := by
  rw [headQ_two (words_row (by simp) fun w hw => by
    rcases List.mem_cons.mp hw with rfl | hw
    · exact clean_doors
    · rw [List.mem_singleton.mp hw]; exact clean_num ⟨by omega, by omega⟩), if_pos rfl, numQ_num ⟨by omega, by omega⟩]
theorem lamp_row {b : Bool} : (lampS b = Str.ofString "lit" ∨ lampS b = Str.ofString "dark") ∧ decide (lampS b = Str.ofString "lit") = b := by
  cases b
  · exact ⟨.inr rfl, by decide +kernel⟩
  · exact ⟨.inl rfl, by decide +kernel⟩
theorem numD_short {row : List Int} (h : Short row) : (row.map numI).map numD = row := by
  rw [List.map_map]
  conv => rhs; rw [← List.map_id row]
  exact List.map_congr_left fun x hx => by show numD (numI x) = x; unfold numD; rw [numQ_num (h x hx)]; rfl
theorem range_gt {α : Type} [Inhabited α] {l : List α} : ((List.range l.length).map fun i : Nat => gt l (i : Int)) = l := by
  refine List.ext_getElem (by simp) fun i h1 h2 => ?_
  rw [List.getElem_map, List.getElem_range]
  exact gt_nat (List.getElem?_eq_getElem h2)
theorem wordsH_read (hk : HouseOk doors ways lamps) : ReadOk (textW (wordsH doors ways lamps)) ∧ dT (textW (wordsH doors ways lamps)) = doors ∧ wT (textW (wordsH doors ways lamps)) = ways ∧ lT (textW (wordsH doors ways lamps)) = lamps := by
  have k := wordsH_clean hk
  have hh := head_doors (d := doors) ⟨hk.1, hk.2.1⟩
  have e1 : dT (textW (wordsH doors ways lamps)) = doors := by unfold dT wordsH; rw [head_eq k, hh]; rfl
  have e2 : wT (textW (wordsH doors ways lamps)) = ways := by
    unfold wordsH
    rw [wT_eq k, List.map_map]
    conv => rhs; rw [← range_gt (l := ways)]
    exact List.map_congr_left fun i hi => by
      have hi := List.mem_range.mp hi
      show ((gt ways (i : Int)).map numI).map numD = _
      exact numD_short (ways_short hk (i := (i : Int)) (by omega) (by omega))
  have e3 : lT (textW (wordsH doors ways lamps)) = lamps := by
    unfold wordsH
    rw [lT_eq k, List.map_map]
    conv => rhs; rw [← range_gt (l := lamps), hk.2.2.2.2.1]
    exact List.map_congr_left fun i hi => lamp_row.2
  refine ⟨⟨?_, fun r hr => ?_, by rw [e1, e2, e3]; exact hk⟩, e1, e2, e3⟩
  · unfold wordsH
    rw [head_eq k, hh]; simp
  · unfold wordsH at hr
    rw [rowsT_eq k] at hr
    obtain ⟨ws, hws, rfl⟩ := List.mem_map.mp hr
    refine (rowOk_iff (k ws (List.mem_cons_of_mem _ hws)).1 (k ws (List.mem_cons_of_mem _ hws)).2).mpr ?_
    obtain ⟨i, hi, rfl⟩ := List.mem_map.mp hws
    have hi := List.mem_range.mp hi
    refine ⟨lamp_row.1, fun w hw => ?_⟩
    obtain ⟨x, hx, rfl⟩ := List.mem_map.mp (show w ∈ (gt ways (i : Int)).map numI from hw)
    rw [numQ_num (ways_short hk (i := (i : Int)) (by omega) (by omega) x hx)]; simp
end
end Ask
/-! A blank or a line end more; odd numbers; odd heads. -/
namespace Ask
open PySem L2
def letters (l : List Nat) : Nat := l.countP fun c => decide (97 ≤ c ∧ c ≤ 122)
theorem letters_app {a b : List Nat} : letters (a ++ b) = letters a + letters b := List.countP_append
theorem letters_join {S : List Nat} (hS : letters S = 0) : ∀ {ps : List (List Nat)}, letters (TL.joinL S ps) = (ps.map letters).sum
  | [] => rfl
  | [p] => by show letters p = letters p + 0; omega
  | p :: q :: r => by
    rw [joinL_cons (by simp), letters_app, letters_app, hS, letters_join hS]
    simp only [List.map_cons, List.sum_cons]
    omega
theorem letters_num {x : Int} (h : 0 ≤ x ∧ x < 1000) : letters (TL.tl (numI x)) = 0 := List.countP_eq_zero.mpr fun c hc => by
  have := (numI_facts h).2.2 c hc
  simp; omega
theorem letters_lamp {b : Bool} : letters (TL.tl (lampS b)) ≤ 4 := by cases b <;> decide +kernel
theorem letters_zero : ∀ {l : List Nat}, (∀ n ∈ l, n = 0) → l.sum = 0
  | [], _ => rfl
  | n :: l, h => by rw [List.sum_cons, h n (by simp), letters_zero fun m hm => h m (by simp [hm])]
/-- what a text that is a house's has in its rows -/
theorem readC {t : Str} {r0 : List Nat} {rs : List (List Nat)} (e : splitC 10 (TL.tl t) = r0 :: rs) (z : ReadOk t) :
    (r0.count 32 = 1 ∧ 5 ≤ letters r0) ∧ (∀ r ∈ rs, 3 ≤ letters r) ∧ ∀ d, headQ (mkS r0) = some d → ∀ r ∈ rs, (r.count 32 : Int) = d := by
  have e1 : gt (Txt.split t (Str.ofString "\n")) 0 = mkS r0 := by rw [rowsQ_eq, e]; rfl
  have e2 : rowsT t = rs.map mkS := by unfold rowsT; rw [rowsQ_eq, e]; rfl
  obtain ⟨z1, z2, z3⟩ := z
  rw [e1] at z1
  have first : ∀ {l : List Nat} {w : Str}, w ∈ Txt.split (mkS l) (Str.ofString " ") → letters (TL.tl w) ≤ letters l := fun {l w} h => by
    have := (words_in h).countP_le (p := fun c => decide (97 ≤ c ∧ c ≤ 122))
    rwa [tl_mkS] at this
  refine ⟨?_, fun r hr => ?_, fun d hd r hr => ?_⟩
  · by_cases h2 : (Txt.split (mkS r0) (Str.ofString " ")).length = 2
    · have hl := words_len (t := mkS r0)
      rw [tl_mkS, h2] at hl
      refine ⟨by omega, ?_⟩
      obtain ⟨a, b, hab⟩ : ∃ a b, Txt.split (mkS r0) (Str.ofString " ") = [a, b] := by
        match hq : Txt.split (mkS r0) (Str.ofString " "), h2 with
        | [a, b], _ => exact ⟨a, b, rfl⟩
      rw [headQ_two hab] at z1
      have ha : a = Str.ofString "doors" := Classical.byContradiction fun n => z1 (if_neg n)
      have := first (l := r0) (w := a) (by rw [hab]; simp)
      rw [ha] at this
      have h5 : letters (TL.tl (Str.ofString "doors")) = 5 := by decide +kernel
      omega
    · exact absurd (headQ_not h2) z1
  · have h1 := (z2 (mkS r) (by rw [e2]; exact List.mem_map.mpr ⟨r, hr, rfl⟩)).1
    have h2 := words_few (t := mkS r)
    have h3 := first (l := r) (gt_mem (l := Txt.split (mkS r) (Str.ofString " ")) (i := 0) (by omega) (by omega))
    rcases h1 with q | q
    · rw [q] at h3
      have : letters (TL.tl (Str.ofString "lit")) = 3 := by decide +kernel
      omega
    · rw [q] at h3
      have : letters (TL.tl (Str.ofString "dark")) = 4 := by decide +kernel
      omega
  · have hdT : dT t = d := by unfold dT; rw [e1, hd]; rfl
    have h1 := (z3.2.2.2.2.2 (wRow (mkS r)) (by unfold wT; rw [e2]; exact List.mem_map.mpr ⟨mkS r, List.mem_map.mpr ⟨r, hr, rfl⟩, rfl⟩)).1
    unfold wRow at h1
    rw [List.length_map, List.length_drop, words_len, tl_mkS, hdT] at h1
    omega
section
variable {doors : Int} {ways : List (List Int)} {lamps : List Bool}
theorem rowsH (hk : HouseOk doors ways lamps) : ∃ h rs, splitC 10 (TL.tl (textW (wordsH doors ways lamps))) = h :: rs ∧ (h.count 32 = 1 ∧ letters h = 5 ∧ headQ (mkS h) = some doors) ∧ ∀ r ∈ rs, (r.count 32 : Int) = doors ∧ letters r ≤ 4 := by
  have k := wordsH_clean hk
  have hs := rows_text (W := wordsH doors ways lamps) (by simp [wordsH]) k
  rw [rowsQ_eq] at hs
  have e : splitC 10 (TL.tl (textW (wordsH doors ways lamps))) = (wordsH doors ways lamps).map fun ws => TL.tl (Txt.join (Str.ofString " ") ws) := by
    have := congrArg (List.map TL.tl) hs
    rw [List.map_map, List.map_map, show (TL.tl ∘ mkS) = id from funext fun l => tl_mkS, List.map_id] at this
    exact this
  refine ⟨_, _, e, ⟨?_, ?_, ?_⟩, fun r hr => ?_⟩
  · show (TL.tl (Txt.join (Str.ofString " ") [Str.ofString "doors", numI doors])).count 32 = 1
    have := words_len (t := Txt.join (Str.ofString " ") [Str.ofString "doors", numI doors])
    rw [words_row (by simp) (k _ (by simp [wordsH])).2, List.length_cons, List.length_cons, List.length_nil] at this
    omega
  · show letters (TL.tl (Txt.join " " _)) = 5
    rw [tl_txt, sp1, letters_join (by decide)]
    have h1 : letters (TL.tl (Str.ofString "doors")) = 5 := by decide +kernel
    have h2 := letters_num (x := doors) ⟨by have := hk.1; omega, by have := hk.2.1; omega⟩
    show letters (TL.tl (Str.ofString "doors")) + (letters (TL.tl (numI doors)) + 0) = 5
    omega
  · rw [mkS_tl]; exact head_doors ⟨hk.1, hk.2.1⟩
  · obtain ⟨ws, hws, rfl⟩ := List.mem_map.mp hr
    have kw := k ws (List.mem_cons_of_mem _ hws)
    obtain ⟨i, hi, rfl⟩ := List.mem_map.mp hws
    have hi := List.mem_range.mp hi
    have hsh := ways_short hk (i := (i : Int)) (by omega) (by omega)
    have hro := row_len hk (r := (i : Int)) (by omega)
    refine ⟨?_, ?_⟩
    · have := words_len (t := Txt.join (Str.ofString " ") (lampS (gt lamps (i : Int)) :: (gt ways (i : Int)).map numI))
      rw [words_row kw.1 kw.2, List.length_cons, List.length_map] at this
      omega
    · show letters (TL.tl (Txt.join " " _)) ≤ 4
      rw [tl_txt, sp1, letters_join (by decide), List.map_cons, List.map_cons, List.sum_cons, letters_zero (l := (((gt ways (i : Int)).map numI).map TL.tl).map letters) fun n hn => ?_]
      · exact letters_lamp
      · obtain ⟨p, hp, rfl⟩ := List.mem_map.mp hn
        obtain ⟨q, hq, rfl⟩ := List.mem_map.mp hp
        obtain ⟨x, hx, rfl⟩ := List.mem_map.mp hq
        exact letters_num (hsh x hx)
/-- a blank or a line end more -/
theorem bad_more (hk : HouseOk doors ways lamps) {t : Str} {a b : List Nat} {c : Nat} (e : TL.tl (textW (wordsH doors ways lamps)) = a ++ b) (ht : TL.tl t = a ++ c :: b) (hc : c = 32 ∨ c = 10) : ¬ ReadOk t := fun z => by
  obtain ⟨h, rs, e1, ⟨h1, h2, h3⟩, h4⟩ := rowsH hk
  obtain ⟨xs, x, g1, g2⟩ := splitC_glue (s := 10) (a := a)
  obtain ⟨y, ys, g3⟩ := splitC_ne (s := 10) (l := b)
  have g4 := g2 b y ys g3
  rw [← e, e1] at g4
  rcases hc with rfl | rfl
  · have g5 := g2 (32 :: b) (32 :: y) ys (splitC_on (by decide) g3)
    rw [← ht] at g5
    have hcnt : (x ++ 32 :: y).count 32 = (x ++ y).count 32 + 1 := by simp [List.count_append]; omega
    cases xs with
    | nil =>
      obtain ⟨q1, q2⟩ := List.cons.inj g4
      have := (readC g5 z).1.1
      rw [hcnt, ← q1] at this
      omega
    | cons r0 xs =>
      obtain ⟨q1, q2⟩ := List.cons.inj g4
      obtain ⟨_, _, k3⟩ := readC g5 z
      have := k3 doors (by rw [← q1]; exact h3) (x ++ 32 :: y) (by simp)
      have := (h4 (x ++ y) (by rw [q2]; simp)).1
      omega
  · have g5 : splitC 10 (TL.tl t) = xs ++ x :: y :: ys := by rw [ht, splitC_app, g1, g3]; simp
    cases xs with
    | nil =>
      obtain ⟨q1, q2⟩ := List.cons.inj g4
      obtain ⟨k1, k2, _⟩ := readC g5 z
      have := k2 y (by simp)
      have l1 := letters_app (a := x) (b := y)
      have l2 : letters (x ++ y) = 5 := by rw [show x ++ y = h from q1.symm]; exact h2
      omega
    | cons r0 xs =>
      obtain ⟨q1, q2⟩ := List.cons.inj g4
      obtain ⟨_, k2, _⟩ := readC g5 z
      have m1 := k2 x (by simp)
      have m2 := k2 y (by simp)
      have l1 := letters_app (a := x) (b := y)
      have := (h4 (x ++ y) (by rw [q2]; simp)).2
      omega
/-- a house's words, one of the rooms' rows put out -/
theorem put_row (hk : HouseOk doors ways lamps) {at' : Int} (h1 : 1 ≤ at' ∧ at' ≤ (ways.length : Int)) {ws : List Str} (hne : ws ≠ []) (hc : ∀ w ∈ ws, CleanW w) : ∃ R, (wordsH doors ways lamps).set at'.toNat ws = [Str.ofString "doors", numI doors] :: R ∧ Clean ([Str.ofString "doors", numI doors] :: R) ∧ ws ∈ R ∧ R.length = ways.length := by
  obtain ⟨k, rfl⟩ : ∃ k : Nat, at' = (k : Int) + 1 := ⟨(at' - 1).toNat, by omega⟩
  rw [show ((k : Int) + 1).toNat = k + 1 by omega]
  have kc := wordsH_clean hk
  refine ⟨((List.range ways.length).map fun i : Nat => lampS (gt lamps (i : Int)) :: (gt ways (i : Int)).map numI).set k ws, rfl, fun r hr => ?_, List.mem_iff_getElem.mpr ⟨k, by simp; omega, by simp⟩, by simp⟩
  rcases List.mem_cons.mp hr with rfl | hr
  · exact kc _ (by simp [wordsH])
  · rcases List.mem_or_eq_of_mem_set hr with q | q
    · exact kc r (List.mem_cons_of_mem _ q)
    · rw [q]; exact ⟨hne, hc⟩
theorem wordsH_gt (hk : HouseOk doors ways lamps) {at' : Int} (h1 : 1 ≤ at' ∧ at' ≤ (ways.length : Int)) : gt (wordsH doors ways lamps) at' = lampS (gt lamps (at' - 1)) :: (gt ways (at' - 1)).map numI := by
  obtain ⟨k, rfl⟩ : ∃ k : Nat, at' = (k : Int) + 1 := ⟨(at' - 1).toNat, by omega⟩
  rw [show (k : Int) + 1 - 1 = k by omega, show (k : Int) + 1 = ((k + 1 : Nat) : Int) by omega]
  refine gt_nat ?_
  show ((List.range ways.length).map _)[k]? = _
  rw [List.getElem?_map, List.getElem?_range (by omega)]; rfl
/-! ### odd numbers -/
def OddOk (rooms : Int) (s : Str) : Prop := CleanW s ∧ s.length ≤ 4500 ∧ (numQ s = none ∨ ∃ y, numQ s = some y ∧ rooms ≤ y)
theorem odd_bad {cell rooms x : Int} (hx : 0 ≤ x ∧ x < 1000) (hr : 1 ≤ rooms ∧ rooms ≤ 15) : OddOk rooms (oddS cell (numI x) rooms) := by
  have hc := clean_num hx
  obtain ⟨f1, f2, f3⟩ := numI_facts hx
  have app : ∀ {a b : Str}, CleanW a → CleanW b → CleanW (a ++ b) := fun {a b} ha hb c h => by
    rw [TL.tl_append] at h
    exact (List.mem_append.mp h).elim (ha c) (hb c)
  have not : ∀ {s : Str} {c : Nat}, c ∈ TL.tl s → (c < 48 ∨ 57 < c) → numQ s = none := fun {s c} hm hcc => by
    unfold numQ numC
    refine if_neg fun z => ?_
    have := z.2.2 c hm
    omega
  have long : ∀ {s : Str}, 4 ≤ (TL.tl s).length → numQ s = none := fun {s} h => by
    unfold numQ numC
    exact if_neg fun z => by have := z.1.2; omega
  have h14 := mod_in (x := cell) (m := 14) (by omega)
  unfold oddS
  generalize cell % 14 = j at h14
  have hlen : ∀ {a b : Str}, (a ++ b).length = a.length + b.length := fun {a b} => by rw [len_str, len_str, len_str, TL.tl_append, List.length_append]
  have fl : (numI x).length ≤ 3 := by rw [len_str]; exact f1
  have hj : j = 0 ∨ j = 1 ∨ j = 2 ∨ j = 3 ∨ j = 4 ∨ j = 5 ∨ j = 6 ∨ j = 7 ∨ j = 8 ∨ j = 9 ∨ j = 10 ∨ j = 11 ∨ j = 12 ∨ j = 13 := by omega
  have con : ∀ {s : Str}, (∀ c ∈ TL.tl s, c ≠ 32 ∧ c ≠ 10 ∧ c < 1000) → s.length ≤ 10 → numQ s = none → OddOk rooms s := fun {s} a b c => ⟨a, by omega, .inl c⟩
  rcases hj with rfl | rfl | rfl | rfl | rfl | rfl | rfl | rfl | rfl | rfl | rfl | rfl | rfl | rfl
  · show OddOk rooms (Str.ofString "0" ++ numI x)
    refine con (app (by unfold CleanW; decide +kernel) hc) (by rw [hlen]; have : (Str.ofString "0").length = 1 := by decide +kernel
                                                               omega) ?_
    unfold numQ numC
    refine if_neg fun z => f2 ?_
    have e : TL.tl (Str.ofString "0" ++ numI x) = 48 :: TL.tl (numI x) := by rw [TL.tl_append, show TL.tl (Str.ofString "0") = [48] by decide +kernel]; rfl
    have := z.2.1 (by rw [e]; rfl)
    rw [e] at this
    exact (List.cons.inj this).2
  · show OddOk rooms (Str.ofString "00")
    exact con (by decide +kernel) (by decide +kernel) (by decide +kernel)
  · show OddOk rooms (Str.ofString "+" ++ numI x)
    refine con (app (by unfold CleanW; decide +kernel) hc) (by rw [hlen]; have : (Str.ofString "+").length = 1 := by decide +kernel
                                                               omega) (not (c := 43) ?_ (by omega))
    rw [TL.tl_append, show TL.tl (Str.ofString "+") = [43] by decide +kernel]; simp
  · show OddOk rooms (Str.ofString "-1")
    exact con (by decide +kernel) (by decide +kernel) (by decide +kernel)
  · show OddOk rooms (numI x ++ Str.ofString "a")
    refine con (app hc (by unfold CleanW; decide +kernel)) (by rw [hlen]; have : (Str.ofString "a").length = 1 := by decide +kernel
                                                               omega) (not (c := 97) ?_ (by omega))
    rw [TL.tl_append, show TL.tl (Str.ofString "a") = [97] by decide +kernel]; simp
  · show OddOk rooms (Str.ofString "a")
    exact con (by decide +kernel) (by decide +kernel) (by decide +kernel)
  · show OddOk rooms (Str.ofString "")
    exact con (by decide +kernel) (by decide +kernel) (by decide +kernel)
  · show OddOk rooms (numI rooms)
    have hr2 : 0 ≤ rooms ∧ rooms < 1000 := ⟨by omega, by omega⟩
    exact ⟨clean_num hr2, by have := (numI_facts hr2).1; show (numI rooms).length ≤ 4500; rw [len_str]; omega, .inr ⟨rooms, numQ_num hr2, Int.le_refl _⟩⟩
  · show OddOk rooms (Str.ofString "400")
    exact ⟨by unfold CleanW; decide +kernel, by decide +kernel, .inr ⟨400, by decide +kernel, by omega⟩⟩
  · show OddOk rooms (Str.ofString "4000")
    exact con (by decide +kernel) (by decide +kernel) (by decide +kernel)
  · show OddOk rooms (numI x ++ Str.ofString "." ++ numI x)
    refine con (app (app hc (by unfold CleanW; decide +kernel)) hc) (by rw [hlen, hlen]; have : (Str.ofString ".").length = 1 := by decide +kernel
                                                                        omega) (not (c := 46) ?_ (by omega))
    rw [TL.tl_append, TL.tl_append, show TL.tl (Str.ofString ".") = [46] by decide +kernel]; simp
  · show OddOk rooms (Txt.mul (Str.ofString "9") (4 + cell / 14 % 4397))
    have hm := mod_in (x := cell / 14) (m := 4397) (by omega)
    have e : TL.tl (Txt.mul (Str.ofString "9") (4 + cell / 14 % 4397)) = List.replicate (4 + cell / 14 % 4397).toNat 57 := tl_nines
    refine ⟨fun c h => ?_, ?_, .inl (long ?_)⟩
    · have h : c ∈ TL.tl (Txt.mul (Str.ofString "9") (4 + cell / 14 % 4397)) := h
      rw [e] at h
      rw [List.eq_of_mem_replicate h]; decide
    · show (Txt.mul (Str.ofString "9") (4 + cell / 14 % 4397)).length ≤ 4500
      rw [len_str, e, List.length_replicate]; omega
    · show 4 ≤ (TL.tl (Txt.mul (Str.ofString "9") (4 + cell / 14 % 4397))).length
      rw [e, List.length_replicate]; omega
  · show OddOk rooms (Str.ofString "0x1")
    exact con (by decide +kernel) (by decide +kernel) (by decide +kernel)
  · show OddOk rooms (Str.ofString "1_0")
    exact con (by decide +kernel) (by decide +kernel) (by decide +kernel)
end
end Ask
/-! The texts of the law. -/
namespace Ask
open PySem L2
def LenW (W : List (List Str)) : Prop := W.length ≤ 16 ∧ ∀ ws ∈ W, ws.length ≤ 8 ∧ ∀ w ∈ ws, w.length ≤ 4500
theorem sp_one : (Str.ofString " ").length = 1 := by decide +kernel
theorem nl_one : (Str.ofString "\n").length = 1 := by decide +kernel
section
variable {W : List (List Str)} {ws : List Str}
theorem row_pre (h : ws.length ≤ 8 ∧ ∀ w ∈ ws, w.length ≤ 4500) : (ws.map (·.length)).sum + ws.length * (Str.ofString " ").length ≤ 16777216 := by
  have := sum_le (f := fun w : Str => w.length) (n := 4500) (l := ws) h.2
  rw [sp_one]; omega
theorem row_len2 (h : ws.length ≤ 8 ∧ ∀ w ∈ ws, w.length ≤ 4500) : (Txt.join (Str.ofString " ") ws).length ≤ 36008 := by
  show (Txt.join " " ws).length ≤ 36008
  rw [len_str, tl_txt, sp1]
  have := len_joinL (S := [32]) (n := 4500) (ps := ws.map TL.tl) fun p hp => by
    obtain ⟨w, hw, rfl⟩ := List.mem_map.mp hp
    rw [← len_str]; exact h.2 w hw
  rw [List.length_map] at this
  simp only [List.length_cons, List.length_nil] at this
  omega
theorem text_pre (h : LenW W) : ((W.map (Txt.join (Str.ofString " "))).map (·.length)).sum + (W.map (Txt.join (Str.ofString " "))).length * (Str.ofString "\n").length ≤ 16777216 := by
  have := sum_le (f := fun w : Str => w.length) (n := 36008) (l := W.map (Txt.join (Str.ofString " "))) fun p hp => by
    obtain ⟨ws, hws, rfl⟩ := List.mem_map.mp hp
    exact row_len2 (h.2 ws hws)
  have h1 := h.1
  rw [nl_one, List.length_map]
  rw [List.length_map] at this
  omega
theorem text_len (h : LenW W) : (textW W).length ≤ 600000 := by
  show (Txt.join "\n" (W.map (Txt.join (Str.ofString " ")))).length ≤ 600000
  rw [len_str, tl_txt, nl1]
  have := len_joinL (S := [10]) (n := 36008) (ps := (W.map (Txt.join (Str.ofString " "))).map TL.tl) fun p hp => by
    obtain ⟨q, hq, rfl⟩ := List.mem_map.mp hp
    obtain ⟨ws, hws, rfl⟩ := List.mem_map.mp hq
    rw [← len_str]; exact row_len2 (h.2 ws hws)
  rw [List.length_map, List.length_map] at this
  have h1 := h.1
  simp only [List.length_cons, List.length_nil] at this
  omega
theorem lenW_set (h : LenW W) {i : Nat} (hw : ws.length ≤ 8 ∧ ∀ w ∈ ws, w.length ≤ 4500) : LenW (W.set i ws) := ⟨by rw [List.length_set]; exact h.1, fun r hr => by
  rcases List.mem_or_eq_of_mem_set hr with q | q
  · exact h.2 r q
  · rw [q]; exact hw⟩
end
section
variable {doors : Int} {ways : List (List Int)} {lamps : List Bool}
theorem lamp_len {b : Bool} : (lampS b).length ≤ 4 := by cases b <;> decide +kernel
theorem wordsH_len (hk : HouseOk doors ways lamps) (hr : ways.length ≤ 15) : LenW (wordsH doors ways lamps) := by
  have h1 := hk.1
  have h2 := hk.2.1
  refine ⟨by simp [wordsH]; omega, fun ws hws => ?_⟩
  rcases List.mem_cons.mp hws with rfl | hws
  · refine ⟨by simp, fun w hw => ?_⟩
    rcases List.mem_cons.mp hw with rfl | hw
    · decide +kernel
    · rw [List.mem_singleton.mp hw]
      have := (len_num (x := doors) ⟨by omega, by omega⟩).2
      omega
  · obtain ⟨i, hi, rfl⟩ := List.mem_map.mp hws
    have hi := List.mem_range.mp hi
    have hro := row_len hk (r := (i : Int)) (by omega)
    refine ⟨by simp; omega, fun w hw => ?_⟩
    rcases List.mem_cons.mp hw with rfl | hw
    · exact Nat.le_trans lamp_len (by decide)
    · obtain ⟨x, hx, rfl⟩ := List.mem_map.mp hw
      have := (len_num (ways_short hk (i := (i : Int)) (by omega) (by omega) x hx)).2
      omega
/-- what the law's rows come to -/
def Turned (doors : Int) (ways : List (List Int)) (lamps : List Bool) (W : List (List Str)) : Prop := Clean W ∧ LenW W ∧ W.length = ways.length + 1 ∧ ¬ ReadOk (textW W)
section
variable {at' : Int} (hk : HouseOk doors ways lamps) (hr : ways.length ≤ 15) (h1 : 1 ≤ at' ∧ at' ≤ (ways.length : Int))
include hk hr h1
theorem row_at : (gt (wordsH doors ways lamps) at').length = doors.toNat + 1 ∧ (∀ w ∈ gt (wordsH doors ways lamps) at', CleanW w ∧ w.length ≤ 4) := by
  rw [wordsH_gt hk h1]
  have hro := row_len hk (r := at' - 1) (by omega)
  refine ⟨by simp; omega, fun w hw => ?_⟩
  rcases List.mem_cons.mp hw with rfl | hw
  · exact ⟨clean_lamp, lamp_len⟩
  · obtain ⟨x, hx, rfl⟩ := List.mem_map.mp hw
    have hx2 := ways_short hk (i := at' - 1) (by omega) (by omega) x hx
    exact ⟨clean_num hx2, by have := (len_num hx2).2; omega⟩
theorem turned_of {ws : List Str} (hne : ws ≠ []) (hc : ∀ w ∈ ws, CleanW w) (hl : ws.length ≤ 8 ∧ ∀ w ∈ ws, w.length ≤ 4500) (hb : ¬ rowW ws ∨ (ws.length : Int) ≠ doors + 1 ∨ ∃ w ∈ ws.drop 1, ∃ x, numQ w = some x ∧ (ways.length : Int) ≤ x) : Turned doors ways lamps ((wordsH doors ways lamps).set at'.toNat ws) := by
  obtain ⟨R, e, kc, hm, hR⟩ := put_row hk h1 hne hc
  refine ⟨by rw [e]; exact kc, lenW_set (wordsH_len hk hr) hl, by rw [List.length_set]; simp [wordsH], ?_⟩
  rw [e]
  rcases hb with b | b | ⟨w, hw, x, hx, b⟩
  · exact bad_row kc hm b
  · exact bad_len kc hm (head_doors ⟨hk.1, hk.2.1⟩) b
  · exact bad_out kc hm hw hx (by rw [hR]; exact b)
theorem turn_odd {door cell : Int} (hd : 1 ≤ door ∧ door ≤ doors) : Turned doors ways lamps ((wordsH doors ways lamps).set at'.toNat ((gt (wordsH doors ways lamps) at').set door.toNat (oddS cell (gt (gt (wordsH doors ways lamps) at') door) (ways.length : Int)))) := by
  obtain ⟨r1, r2⟩ := row_at hk hr h1
  have hd6 := hk.2.1
  have hw1 := hk.2.2.1
  obtain ⟨k, rfl⟩ : ∃ k : Nat, door = (k : Int) + 1 := ⟨(door - 1).toNat, by omega⟩
  have hfig : ∃ x, (0 ≤ x ∧ x < 1000) ∧ gt (gt (wordsH doors ways lamps) at') ((k : Int) + 1) = numI x := by
    have hro := row_len hk (r := at' - 1) (by omega)
    have hg := get_gt (l := gt ways (at' - 1)) (k := (k : Int)) (by omega) (by omega)
    rw [Int.toNat_natCast] at hg
    refine ⟨gt (gt ways (at' - 1)) (k : Int), ways_short hk (i := at' - 1) (by omega) (by omega) _ (gt_mem (by omega) (by omega)), ?_⟩
    rw [wordsH_gt hk h1, show (k : Int) + 1 = ((k + 1 : Nat) : Int) by omega]
    refine gt_nat ?_
    show ((gt ways (at' - 1)).map numI)[k]? = _
    rw [List.getElem?_map, hg]; rfl
  obtain ⟨x, hx, ex⟩ := hfig
  rw [ex, show ((k : Int) + 1).toNat = k + 1 by omega]
  obtain ⟨o1, o2, o3⟩ := odd_bad (cell := cell) (rooms := (ways.length : Int)) hx ⟨by omega, by omega⟩
  generalize oddS cell (numI x) (ways.length : Int) = o at o1 o2 o3
  generalize gt (wordsH doors ways lamps) at' = row at r1 r2
  have hin : ∀ w ∈ row.set (k + 1) o, CleanW w ∧ w.length ≤ 4500 := fun w hw => by
    rcases List.mem_or_eq_of_mem_set hw with q | q
    · exact ⟨(r2 w q).1, by have := (r2 w q).2; omega⟩
    · rw [q]; exact ⟨o1, o2⟩
  have hod : o ∈ (row.set (k + 1) o).drop 1 := by
    refine List.mem_iff_getElem?.mpr ⟨k, ?_⟩
    rw [List.getElem?_drop, Nat.add_comm, List.getElem?_set_self (by omega)]
  refine turned_of hk hr h1 (fun z => ?_) (fun w hw => (hin w hw).1) ⟨by rw [List.length_set]; omega, fun w hw => (hin w hw).2⟩ ?_
  · have := congrArg List.length z
    rw [List.length_set, List.length_nil] at this
    omega
  · rcases o3 with e | ⟨y, e1, e2⟩
    · exact .inl fun z => z.2 o hod e
    · exact .inr (.inr ⟨o, hod, y, e1, e2⟩)
theorem turn_more {w : Str} (hw : CleanW w ∧ w.length ≤ 4500) : Turned doors ways lamps ((wordsH doors ways lamps).set at'.toNat (gt (wordsH doors ways lamps) at' ++ [w])) := by
  obtain ⟨r1, r2⟩ := row_at hk hr h1
  have hd6 := hk.2.1
  have hd1 := hk.1
  generalize gt (wordsH doors ways lamps) at' = row at r1 r2
  have hin : ∀ q ∈ row ++ [w], CleanW q ∧ q.length ≤ 4500 := fun q hq => by
    rcases List.mem_append.mp hq with z | z
    · exact ⟨(r2 q z).1, by have := (r2 q z).2; omega⟩
    · rw [List.mem_singleton.mp z]; exact hw
  exact turned_of hk hr h1 (by simp) (fun q hq => (hin q hq).1) ⟨by simp; omega, fun q hq => (hin q hq).2⟩ (.inr (.inl (by simp; omega)))
theorem turn_less : Turned doors ways lamps ((wordsH doors ways lamps).set at'.toNat (gt (wordsH doors ways lamps) at').dropLast) := by
  obtain ⟨r1, r2⟩ := row_at hk hr h1
  have hd6 := hk.2.1
  have hd1 := hk.1
  generalize gt (wordsH doors ways lamps) at' = row at r1 r2
  have hin : ∀ q ∈ row.dropLast, CleanW q ∧ q.length ≤ 4500 := fun q hq => by
    have z := List.dropLast_subset row hq
    exact ⟨(r2 q z).1, by have := (r2 q z).2; omega⟩
  refine turned_of hk hr h1 (fun z => ?_) (fun q hq => (hin q hq).1) ⟨by simp; omega, fun q hq => (hin q hq).2⟩ (.inr (.inl (by simp; omega)))
  have := congrArg List.length z
  rw [List.length_dropLast, List.length_nil] at this
  omega
theorem turn_lamp {w : Str} (hw : CleanW w ∧ w.length ≤ 4500) (hb : w ≠ Str.ofString "lit" ∧ w ≠ Str.ofString "dark") : Turned doors ways lamps ((wordsH doors ways lamps).set at'.toNat ((gt (wordsH doors ways lamps) at').set 0 w)) := by
  obtain ⟨r1, r2⟩ := row_at hk hr h1
  have hd6 := hk.2.1
  have hd1 := hk.1
  generalize gt (wordsH doors ways lamps) at' = row at r1 r2
  have hin : ∀ q ∈ row.set 0 w, CleanW q ∧ q.length ≤ 4500 := fun q hq => by
    rcases List.mem_or_eq_of_mem_set hq with z | z
    · exact ⟨(r2 q z).1, by have := (r2 q z).2; omega⟩
    · rw [z]; exact hw
  refine turned_of hk hr h1 (fun z => ?_) (fun q hq => (hin q hq).1) ⟨by rw [List.length_set]; omega, fun q hq => (hin q hq).2⟩ (.inl fun z => ?_)
  · have := congrArg List.length z
    rw [List.length_set, List.length_nil] at this
    omega
  · have hg : gt (row.set 0 w) ((0 : Nat) : Int) = w := gt_nat (List.getElem?_set_self (by omega))
    have z1 : gt (row.set 0 w) ((0 : Nat) : Int) = Str.ofString "lit" ∨ gt (row.set 0 w) ((0 : Nat) : Int) = Str.ofString "dark" := z.1
    rw [hg] at z1
    exact z1.elim hb.1 hb.2
end
theorem fig_at (hk : HouseOk doors ways lamps) {at' : Int} (h1 : 1 ≤ at' ∧ at' ≤ (ways.length : Int)) {door : Int} (hd : 1 ≤ door ∧ door ≤ doors) : (gt (gt (wordsH doors ways lamps) at') door).length ≤ 3 := by
  obtain ⟨k, rfl⟩ : ∃ k : Nat, door = (k : Int) + 1 := ⟨(door - 1).toNat, by omega⟩
  have hro := row_len hk (r := at' - 1) (by omega)
  have hg := get_gt (l := gt ways (at' - 1)) (k := (k : Int)) (by omega) (by omega)
  rw [Int.toNat_natCast] at hg
  have e : gt (gt (wordsH doors ways lamps) at') ((k : Int) + 1) = numI (gt (gt ways (at' - 1)) (k : Int)) := by
    rw [wordsH_gt hk h1, show (k : Int) + 1 = ((k + 1 : Nat) : Int) by omega]
    refine gt_nat ?_
    show ((gt ways (at' - 1)).map numI)[k]? = _
    rw [List.getElem?_map, hg]; rfl
  rw [e]
  exact (len_num (ways_short hk (i := at' - 1) (by omega) (by omega) _ (gt_mem (by omega) (by omega)))).2
theorem strRows_at {W : List (List Str)} {k : Int} (h0 : 0 ≤ k) (h : k < (W.length : Int)) : (strRows W)[k.toNat]? = some ((gt W k).map Dt.str) := by
  unfold strRows
  rw [List.getElem?_map, get_gt h0 h]; rfl
theorem strRows_set {W : List (List Str)} {i : Nat} {r : List Str} : (strRows W).set i (r.map Dt.str) = strRows (W.set i r) := by
  unfold strRows; rw [List.map_set]
def lampL : List Str := [Str.ofString "Lit", Str.ofString "DARK", Str.ofString "", Str.ofString "light", Str.ofString "li", Str.ofString "lit,", Str.ofString "darkk", Str.ofString "doors"]
theorem lampL_bad : ∀ w ∈ lampL, (CleanW w ∧ w.length ≤ 4500) ∧ w ≠ Str.ofString "lit" ∧ w ≠ Str.ofString "dark" := by unfold CleanW; decide +kernel
def headL : List Str := [Str.ofString "doors", Str.ofString "door 2", Str.ofString "doors 0", Str.ofString "doors 7", Str.ofString "doors 01", Str.ofString "Doors 1", Str.ofString "doors 1 1", Str.ofString "", Str.ofString " doors 1",
  Str.ofString "doors +1", Str.ofString "doors 1_", Str.ofString "doors 1 ", Str.ofString "doors 1.", Str.ofString "doors 1_0"]
theorem headL_bad : ∀ w ∈ headL, (headQ w = none ∨ headQ w = some 0 ∨ headQ w = some 7) ∧ w.length ≤ 4500 ∧ ∀ c ∈ TL.tl w, c ≠ 10 ∧ c < 1000 := by decide +kernel
/-- another head -/
theorem turn_head (hk : HouseOk doors ways lamps) (hr : ways.length ≤ 15) {w : Str} (hw : w ∈ headL) : LenW ((wordsH doors ways lamps).set 0 [w]) ∧ (∀ c ∈ TL.tl (textW ((wordsH doors ways lamps).set 0 [w])), c < 1000) ∧ ¬ ReadOk (textW ((wordsH doors ways lamps).set 0 [w])) := by
  obtain ⟨b1, b2, b3⟩ := headL_bad w hw
  have kc := wordsH_clean hk
  refine ⟨lenW_set (wordsH_len hk hr) ⟨by simp, fun q hq => by rw [List.mem_singleton.mp hq]; exact b2⟩, ?_, ?_⟩
  · intro c hc
    have hc : c ∈ TL.tl (Txt.join "\n" (((wordsH doors ways lamps).set 0 [w]).map (Txt.join (Str.ofString " ")))) := hc
    rw [tl_txt, nl1] at hc
    rcases mem_joinL hc with q | ⟨p, hp, q⟩
    · have : c = 10 := by simpa using q
      omega
    · obtain ⟨z, hz, rfl⟩ := List.mem_map.mp hp
      obtain ⟨ws, hws, rfl⟩ := List.mem_map.mp hz
      rcases List.mem_or_eq_of_mem_set hws with m | m
      · exact (codes_row (kc ws m).2 c q).2
      · rw [m] at q
        rw [show Txt.join (Str.ofString " ") [w] = w from join_one] at q
        exact (b3 c q).2
  · have e : Txt.split (textW ((wordsH doors ways lamps).set 0 [w])) (Str.ofString "\n") = ((wordsH doors ways lamps).set 0 [w]).map (Txt.join (Str.ofString " ")) := TL.split_join nl1 (by decide +kernel) (by simp [wordsH]) fun p hp z => by
      obtain ⟨ws, hws, rfl⟩ := List.mem_map.mp hp
      rcases List.mem_or_eq_of_mem_set hws with m | m
      · exact (codes_row (kc ws m).2 10 z).1 rfl
      · rw [m] at z
        rw [show Txt.join (Str.ofString " ") [w] = w from join_one] at z
        exact (b3 10 z).1 rfl
    intro z
    have e1 : gt (Txt.split (textW ((wordsH doors ways lamps).set 0 [w])) (Str.ofString "\n")) 0 = w := by
      rw [e]
      show Txt.join (Str.ofString " ") [w] = w
      exact join_one
    have z1 := z.1
    rw [e1] at z1
    have hd : dT (textW ((wordsH doors ways lamps).set 0 [w])) = (headQ w).getD 0 := by unfold dT; rw [e1]
    have k1 := z.2.2.1
    have k2 := z.2.2.2.1
    rw [hd] at k1 k2
    rcases b1 with q | q | q
    · exact z1 q
    · rw [q] at k1; revert k1; decide
    · rw [q] at k2; revert k2; decide
theorem turn_alone {d : Int} (h : 1 ≤ d ∧ d ≤ 6) : ¬ ReadOk (headS d) ∧ (∀ c ∈ TL.tl (headS d), c < 1000) ∧ (headS d).length ≤ 9 := by
  obtain ⟨f1, f2⟩ := head_facts (d := d) ⟨by omega, by omega⟩
  refine ⟨fun z => ?_, fun c hc => by have := f2 c hc; omega, by rw [len_str]; exact f1⟩
  have e : splitC 10 (TL.tl (headS d)) = [TL.tl (headS d)] := splitC_clean fun m => by have := f2 10 m; omega
  have := z.2.2.2.2.1
  unfold wT rowsT at this
  rw [rowsQ_eq, e] at this
  simp at this
end
end Ask
/-! A comprehension over the rows of a block. -/
namespace Ask
open PySem L2
theorem refs_range {ps : List Addr} : refs ps = (List.range ps.length).map fun i : Nat => Dt.ref (gt ps (i : Int)) := by
  unfold refs
  refine List.ext_getElem (by simp) fun i h1 h2 => ?_
  rw [List.getElem_map, List.getElem_map, List.getElem_range]
  rw [List.length_map] at h1
  rw [gt_nat (List.getElem?_eq_getElem h1)]
theorem lcD_refs {K : PySem.W.Frag} {B : Fr} {s : Sl} {M : Ms} {te : TE} {vs : List Nat} {j : Nat} {ps : List Addr} {fin : List Dt → Prop} (g : Nat → Dt) (hj : j ∈ vs) (hz : ps.length < 16777216)
    (hs : ∀ (i : Nat) q acc, i < ps.length → q ∉ B.T → EvW K B te ((wipeS s vs).set j (some (.ref (gt ps (i : Int))))) (.one q (.lst acc) :: M) fun e M3 => M3 = .one q (.lst acc) :: M ∧ g i = e) (k : fin ((List.range ps.length).map g)) : LcD K B te s vs j (refs ps) M fin := by
  rw [refs_range]
  exact lcD_map g hj (by simpa using hz) (fun a q acc ha hq => hs a q acc (List.mem_range.mp ha) hq) k
theorem join_rows {W : List (List Str)} {n : Nat} (h : n = W.length) : ((List.range n).map fun i : Nat => Dt.str (Txt.join (Str.ofString " ") (gt W (i : Int)))) = (W.map (Txt.join (Str.ofString " "))).map Dt.str := by
  subst h
  conv => rhs; rw [← range_gt (l := W)]
  rw [List.map_map, List.map_map]; rfl
end Ask
/-! A text cut in two. -/
namespace Ask
open PySem L2
theorem cut_to_tl {z : Str} {i : Int} (h : 0 ≤ i) : L2.cutS z none (some i) = mkS ((TL.tl z).take i.toNat) := by
  rw [C8.cutS_slice]
  have := SX.slice_to (a := TL.tl z) h
  rwa [SX.S_tl] at this
theorem cut_from_tl {z : Str} {i : Int} (h : 0 ≤ i) : L2.cutS z (some i) none = mkS ((TL.tl z).drop i.toNat) := by
  rw [C8.cutS_slice]
  have := SX.slice_from (a := TL.tl z) h
  rwa [SX.S_tl] at this
section
variable {K : PySem.W.Frag} {B : Fr} {s : Sl} {M : Ms} {Φ : Dt → Ms → Prop} {z : Str} {i : Int}
instance s_slSto : Stp (OpS K B rSlS (.str z) none (some i) M Φ) (Pre (0 ≤ i ∧ z.length ≤ 16777216) (Φ (.str (mkS ((TL.tl z).take i.toNat))) M)) := ⟨fun k G H v Q L r q =>
  ⟨z, r.strOf, by rw [sizeLine_eq]; exact k.1.2, by rw [cut_to_tl k.1.1]; exact q _ _ M G H L (Ex.refl G) (.str _) k.2⟩⟩
instance s_slSfrom : Stp (OpS K B rSlS (.str z) (some i) none M Φ) (Pre (0 ≤ i ∧ z.length ≤ 16777216) (Φ (.str (mkS ((TL.tl z).drop i.toNat))) M)) := ⟨fun k G H v Q L r q =>
  ⟨z, r.strOf, by rw [sizeLine_eq]; exact k.1.2, by rw [cut_from_tl k.1.1]; exact q _ _ M G H L (Ex.refl G) (.str _) k.2⟩⟩
end
end Ask
namespace Lawk15
open PySem L2 Ask
def top (i : Nat) : Stmt := PySem.Challenge.pw_askhouse_k15_texts_that_write_no_house.main.body.getD i (.Pass ⟨0, 0, 0, 0⟩)
abbrev st__law_draw : Stmt := top 18
theorem sc__law_draw : FnScope ["cell", "k", "bound", "stir"] ["cell", "k", "bound"] (defScope st__law_draw) := ⟨rfl, rfl, rfl, by decide +kernel, rfl, by decide +kernel, by decide +kernel⟩
abbrev st__law_ways_by : Stmt := top 19
theorem sc__law_ways_by : FnScope ["cell", "doors", "rooms", "ways", "k", "door"] ["cell", "doors", "rooms"] (defScope st__law_ways_by) := ⟨rfl, rfl, rfl, by decide +kernel, rfl, by decide +kernel, by decide +kernel⟩
abbrev st__law_lamps_by : Stmt := top 20
theorem sc__law_lamps_by : FnScope ["cell", "rooms", "k"] ["cell", "rooms"] (defScope st__law_lamps_by) := ⟨rfl, rfl, rfl, by decide +kernel, rfl, by decide +kernel, by decide +kernel⟩
abbrev st__law_text_of : Stmt := top 28
theorem sc__law_text_of : FnScope ["doors", "ways", "lamps", "rows", "k", "to"] ["doors", "ways", "lamps"] (defScope st__law_text_of) := ⟨rfl, rfl, rfl, by decide +kernel, rfl, by decide +kernel, by decide +kernel⟩
abbrev st__law_cell_at : Stmt := top 17
theorem sc__law_cell_at : FnScope ["script", "k"] ["script", "k"] (defScope st__law_cell_at) := ⟨rfl, rfl, rfl, by decide +kernel, rfl, by decide +kernel, by decide +kernel⟩
abbrev st_number : Stmt := top 13
theorem sc_number : FnScope ["word", "sign"] ["word"] (defScope st_number) := ⟨rfl, rfl, rfl, by decide +kernel, rfl, by decide +kernel, by decide +kernel⟩
abbrev st_looked_through : Stmt := top 9
theorem sc_looked_through : FnScope ["doors", "ways", "lamps", "row", "room"] ["doors", "ways", "lamps"] (defScope st_looked_through) := ⟨rfl, rfl, rfl, by decide +kernel, rfl, by decide +kernel, by decide +kernel⟩
abbrev st_House_init : Stmt := inClass (top 10) 0
theorem sc_House_init : FnScope ["self", "doors", "ways", "lamps", "row"] ["self", "doors", "ways", "lamps"] (defScope st_House_init) := ⟨rfl, rfl, rfl, by decide +kernel, rfl, by decide +kernel, by decide +kernel⟩
abbrev st_made : Stmt := top 14
theorem sc_made : FnScope ["doors", "ways", "lamps"] ["doors", "ways", "lamps"] (defScope st_made) := ⟨rfl, rfl, rfl, by decide +kernel, rfl, by decide +kernel, by decide +kernel⟩
abbrev st_read : Stmt := top 15
theorem sc_read : FnScope ["text", "rows", "first", "doors", "ways", "lamps", "row", "words", "word"] ["text"] (defScope st_read) := ⟨rfl, rfl, rfl, by decide +kernel, rfl, by decide +kernel, by decide +kernel⟩
abbrev st__law_stands_under : Stmt := top 25
theorem sc__law_stands_under : FnScope ["e"] ["e"] (defScope st__law_stands_under) := ⟨rfl, rfl, rfl, by decide +kernel, rfl, by decide +kernel, by decide +kernel⟩
abbrev st__law_refused : Stmt := top 26
theorem sc__law_refused : FnScope ["text", "name", "under", "e"] ["text"] (defScope st__law_refused) := ⟨rfl, rfl, rfl, by decide +kernel, rfl, by decide +kernel, by decide +kernel⟩
abbrev st__law_odd_number : Stmt := top 27
theorem sc__law_odd_number : FnScope ["cell", "figures", "rooms", "some"] ["cell", "figures", "rooms"] (defScope st__law_odd_number) := ⟨rfl, rfl, rfl, by decide +kernel, rfl, by decide +kernel, by decide +kernel⟩
abbrev st__law_truths : Stmt := top 23
theorem sc__law_truths : FnScope ["found", "due", "part"] ["found", "due"] (defScope st__law_truths) := ⟨rfl, rfl, rfl, by decide +kernel, rfl, by decide +kernel, by decide +kernel⟩
abbrev st__law_whole : Stmt := top 21
theorem sc__law_whole : FnScope ["found"] ["found"] (defScope st__law_whole) := ⟨rfl, rfl, rfl, by decide +kernel, rfl, by decide +kernel, by decide +kernel⟩
abbrev st__law_numbers : Stmt := top 22
theorem sc__law_numbers : FnScope ["found", "due", "part"] ["found", "due"] (defScope st__law_numbers) := ⟨rfl, rfl, rfl, by decide +kernel, rfl, by decide +kernel, by decide +kernel⟩
abbrev st__law_house_is : Stmt := top 24
theorem sc__law_house_is : FnScope ["found", "doors", "ways", "lamps", "k"] ["found", "doors", "ways", "lamps"] (defScope st__law_house_is) := ⟨rfl, rfl, rfl, by decide +kernel, rfl, by decide +kernel, by decide +kernel⟩
abbrev st_law : Stmt := top 29
theorem sc_law : FnScope ["script", "doors", "rooms", "ways", "lamps", "rows", "way", "cell", "at", "door", "text", "place", "some", "row"] ["script"] (defScope st_law) := ⟨rfl, rfl, rfl, by decide +kernel, rfl, by decide +kernel, by decide +kernel⟩
/-- what the top leaves -/
structure Txt (K : PySem.W.Frag) (mg : Str → Option Value) where
  c_House : Addr
  g_House : mg "House" = some (.ref c_House)
  cl_House : Cls K c_House
  ty_House : InsTy K c_House
  na_House_doors : NoAttr K c_House "doors"
  na_House_ways : NoAttr K c_House "ways"
  na_House_lamps : NoAttr K c_House "lamps"
  c_HouseError : Addr
  g_HouseError : mg "HouseError" = some (.ref c_HouseError)
  x_HouseError : PySem.W.excIn K c_HouseError [.type "ValueError", .type "Exception", .type "BaseException", .type "object"] "ValueError.__new__" = true
  k_HouseError : PySem.W.keepIn K (.ref c_HouseError) = true
  s_HouseError : PySem.W.subIn K (.ref c_HouseError) (.type "BaseException") = some true
  t_HouseError : PySem.W.typeIn K (.ref c_HouseError) = some (.type "type")
  y_HouseError : ExcC K c_HouseError
  z_HouseError : PySem.W.subIn K (.ref c_HouseError) (.ref c_HouseError) = some true
  v_HouseError : PySem.W.subIn K (.ref c_HouseError) (.type "ValueError") = some true
  c_BadHouse : Addr
  g_BadHouse : mg "BadHouse" = some (.ref c_BadHouse)
  x_BadHouse : PySem.W.excIn K c_BadHouse [.type "ValueError", .type "Exception", .type "BaseException", .type "object"] "ValueError.__new__" = true
  k_BadHouse : PySem.W.keepIn K (.ref c_BadHouse) = true
  s_BadHouse : PySem.W.subIn K (.ref c_BadHouse) (.type "BaseException") = some true
  t_BadHouse : PySem.W.typeIn K (.ref c_BadHouse) = some (.type "type")
  y_BadHouse : ExcC K c_BadHouse
  z_BadHouse : PySem.W.subIn K (.ref c_BadHouse) (.ref c_BadHouse) = some true
  v_BadHouse : PySem.W.subIn K (.ref c_BadHouse) (.type "ValueError") = some true
  c_BadWord : Addr
  g_BadWord : mg "BadWord" = some (.ref c_BadWord)
  x_BadWord : PySem.W.excIn K c_BadWord [.type "ValueError", .type "Exception", .type "BaseException", .type "object"] "ValueError.__new__" = true
  k_BadWord : PySem.W.keepIn K (.ref c_BadWord) = true
  s_BadWord : PySem.W.subIn K (.ref c_BadWord) (.type "BaseException") = some true
  t_BadWord : PySem.W.typeIn K (.ref c_BadWord) = some (.type "type")
  y_BadWord : ExcC K c_BadWord
  z_BadWord : PySem.W.subIn K (.ref c_BadWord) (.ref c_BadWord) = some true
  v_BadWord : PySem.W.subIn K (.ref c_BadWord) (.type "ValueError") = some true
  c_BadText : Addr
  g_BadText : mg "BadText" = some (.ref c_BadText)
  x_BadText : PySem.W.excIn K c_BadText [.type "ValueError", .type "Exception", .type "BaseException", .type "object"] "ValueError.__new__" = true
  k_BadText : PySem.W.keepIn K (.ref c_BadText) = true
  s_BadText : PySem.W.subIn K (.ref c_BadText) (.type "BaseException") = some true
  t_BadText : PySem.W.typeIn K (.ref c_BadText) = some (.type "type")
  y_BadText : ExcC K c_BadText
  z_BadText : PySem.W.subIn K (.ref c_BadText) (.ref c_BadText) = some true
  v_BadText : PySem.W.subIn K (.ref c_BadText) (.type "ValueError") = some true
  u_BadHouse_HouseError : PySem.W.subIn K (.ref c_BadHouse) (.ref c_HouseError) = some true
  u_BadText_BadHouse : PySem.W.subIn K (.ref c_BadText) (.ref c_BadHouse) = some false
  u_BadText_BadWord : PySem.W.subIn K (.ref c_BadText) (.ref c_BadWord) = some false
  u_BadText_HouseError : PySem.W.subIn K (.ref c_BadText) (.ref c_HouseError) = some true
  u_BadWord_HouseError : PySem.W.subIn K (.ref c_BadWord) (.ref c_HouseError) = some true
  tk_MOST_DOORS : Tok
  g_MOST_DOORS : mg "MOST_DOORS" = some (.int 6 tk_MOST_DOORS)
  tk_MOST_ROOMS : Tok
  g_MOST_ROOMS : mg "MOST_ROOMS" = some (.int 400 tk_MOST_ROOMS)
  tk_FIGURES : Tok
  g_FIGURES : mg "FIGURES" = some (.str "0123456789" tk_FIGURES)
  n_ValueError : mg "ValueError" = none
  n_bool : mg "bool" = none
  n_int : mg "int" = none
  n_isinstance : mg "isinstance" = none
  n_len : mg "len" = none
  n_list : mg "list" = none
  n_range : mg "range" = none
  n_str : mg "str" = none
  a__law_draw : Addr
  fd__law_draw : FuncData
  f__law_draw : Fun K "_law_draw" "_law_draw" st__law_draw a__law_draw fd__law_draw
  b__law_draw : Binds K fd__law_draw ["cell", "k", "bound"] []
  g__law_draw : mg "_law_draw" = some (.ref a__law_draw)
  a__law_ways_by : Addr
  fd__law_ways_by : FuncData
  f__law_ways_by : Fun K "_law_ways_by" "_law_ways_by" st__law_ways_by a__law_ways_by fd__law_ways_by
  b__law_ways_by : Binds K fd__law_ways_by ["cell", "doors", "rooms"] []
  g__law_ways_by : mg "_law_ways_by" = some (.ref a__law_ways_by)
  a__law_lamps_by : Addr
  fd__law_lamps_by : FuncData
  f__law_lamps_by : Fun K "_law_lamps_by" "_law_lamps_by" st__law_lamps_by a__law_lamps_by fd__law_lamps_by
  b__law_lamps_by : Binds K fd__law_lamps_by ["cell", "rooms"] []
  g__law_lamps_by : mg "_law_lamps_by" = some (.ref a__law_lamps_by)
  a__law_text_of : Addr
  fd__law_text_of : FuncData
  f__law_text_of : Fun K "_law_text_of" "_law_text_of" st__law_text_of a__law_text_of fd__law_text_of
  b__law_text_of : Binds K fd__law_text_of ["doors", "ways", "lamps"] []
  g__law_text_of : mg "_law_text_of" = some (.ref a__law_text_of)
  a__law_cell_at : Addr
  fd__law_cell_at : FuncData
  f__law_cell_at : Fun K "_law_cell_at" "_law_cell_at" st__law_cell_at a__law_cell_at fd__law_cell_at
  b__law_cell_at : Binds K fd__law_cell_at ["script", "k"] []
  g__law_cell_at : mg "_law_cell_at" = some (.ref a__law_cell_at)
  a_number : Addr
  fd_number : FuncData
  f_number : Fun K "number" "number" st_number a_number fd_number
  b_number : Binds K fd_number ["word"] []
  g_number : mg "number" = some (.ref a_number)
  a_looked_through : Addr
  fd_looked_through : FuncData
  f_looked_through : Fun K "looked_through" "looked_through" st_looked_through a_looked_through fd_looked_through
  b_looked_through : Binds K fd_looked_through ["doors", "ways", "lamps"] []
  g_looked_through : mg "looked_through" = some (.ref a_looked_through)
  a_House_init : Addr
  fd_House_init : FuncData
  f_House_init : Fun K "__init__" "House.__init__" st_House_init a_House_init fd_House_init
  b_House_init : Binds K fd_House_init ["self", "doors", "ways", "lamps"] []
  mk_House : Mk K c_House a_House_init
  a_made : Addr
  fd_made : FuncData
  f_made : Fun K "made" "made" st_made a_made fd_made
  b_made : Binds K fd_made ["doors", "ways", "lamps"] []
  g_made : mg "made" = some (.ref a_made)
  a_read : Addr
  fd_read : FuncData
  f_read : Fun K "read" "read" st_read a_read fd_read
  b_read : Binds K fd_read ["text"] []
  g_read : mg "read" = some (.ref a_read)
  a__law_stands_under : Addr
  fd__law_stands_under : FuncData
  f__law_stands_under : Fun K "_law_stands_under" "_law_stands_under" st__law_stands_under a__law_stands_under fd__law_stands_under
  b__law_stands_under : Binds K fd__law_stands_under ["e"] []
  g__law_stands_under : mg "_law_stands_under" = some (.ref a__law_stands_under)
  a__law_refused : Addr
  fd__law_refused : FuncData
  f__law_refused : Fun K "_law_refused" "_law_refused" st__law_refused a__law_refused fd__law_refused
  b__law_refused : Binds K fd__law_refused ["text"] []
  g__law_refused : mg "_law_refused" = some (.ref a__law_refused)
  a__law_odd_number : Addr
  fd__law_odd_number : FuncData
  f__law_odd_number : Fun K "_law_odd_number" "_law_odd_number" st__law_odd_number a__law_odd_number fd__law_odd_number
  b__law_odd_number : Binds K fd__law_odd_number ["cell", "figures", "rooms"] []
  g__law_odd_number : mg "_law_odd_number" = some (.ref a__law_odd_number)
  a__law_truths : Addr
  fd__law_truths : FuncData
  f__law_truths : Fun K "_law_truths" "_law_truths" st__law_truths a__law_truths fd__law_truths
  b__law_truths : Binds K fd__law_truths ["found", "due"] []
  g__law_truths : mg "_law_truths" = some (.ref a__law_truths)
  a__law_whole : Addr
  fd__law_whole : FuncData
  f__law_whole : Fun K "_law_whole" "_law_whole" st__law_whole a__law_whole fd__law_whole
  b__law_whole : Binds K fd__law_whole ["found"] []
  g__law_whole : mg "_law_whole" = some (.ref a__law_whole)
  a__law_numbers : Addr
  fd__law_numbers : FuncData
  f__law_numbers : Fun K "_law_numbers" "_law_numbers" st__law_numbers a__law_numbers fd__law_numbers
  b__law_numbers : Binds K fd__law_numbers ["found", "due"] []
  g__law_numbers : mg "_law_numbers" = some (.ref a__law_numbers)
  a__law_house_is : Addr
  fd__law_house_is : FuncData
  f__law_house_is : Fun K "_law_house_is" "_law_house_is" st__law_house_is a__law_house_is fd__law_house_is
  b__law_house_is : Binds K fd__law_house_is ["found", "doors", "ways", "lamps"] []
  g__law_house_is : mg "_law_house_is" = some (.ref a__law_house_is)
  a_law : Addr
  fd_law : FuncData
  f_law : Fun K "law" "law" st_law a_law fd_law
  b_law : Binds K fd_law ["script"] []
  g_law : mg "law" = some (.ref a_law)
section
variable {K : PySem.W.Frag} {mg : Str → Option Value} (T : Txt K mg)
instance it_House : InsTyC K T.c_House := ⟨T.ty_House⟩
instance fk_House_doors : FldOk K T.c_House "doors" := ⟨T.cl_House, T.na_House_doors⟩
instance fk_House_ways : FldOk K T.c_House "ways" := ⟨T.cl_House, T.na_House_ways⟩
instance fk_House_lamps : FldOk K T.c_House "lamps" := ⟨T.cl_House, T.na_House_lamps⟩
instance ix_HouseError : ExC K T.c_HouseError := ⟨T.y_HouseError, T.t_HouseError, T.z_HouseError⟩
instance iv_HouseError : ValX K T.c_HouseError := ⟨T.v_HouseError⟩
instance ix_BadHouse : ExC K T.c_BadHouse := ⟨T.y_BadHouse, T.t_BadHouse, T.z_BadHouse⟩
instance iv_BadHouse : ValX K T.c_BadHouse := ⟨T.v_BadHouse⟩
instance ix_BadWord : ExC K T.c_BadWord := ⟨T.y_BadWord, T.t_BadWord, T.z_BadWord⟩
instance iv_BadWord : ValX K T.c_BadWord := ⟨T.v_BadWord⟩
instance ix_BadText : ExC K T.c_BadText := ⟨T.y_BadText, T.t_BadText, T.z_BadText⟩
instance iv_BadText : ValX K T.c_BadText := ⟨T.v_BadText⟩
instance iu_BadHouse_HouseError : SubX K T.c_BadHouse T.c_HouseError true := ⟨T.u_BadHouse_HouseError⟩
instance iu_BadText_BadHouse : SubX K T.c_BadText T.c_BadHouse false := ⟨T.u_BadText_BadHouse⟩
instance iu_BadText_BadWord : SubX K T.c_BadText T.c_BadWord false := ⟨T.u_BadText_BadWord⟩
instance iu_BadText_HouseError : SubX K T.c_BadText T.c_HouseError true := ⟨T.u_BadText_HouseError⟩
instance iu_BadWord_HouseError : SubX K T.c_BadWord T.c_HouseError true := ⟨T.u_BadWord_HouseError⟩
end
variable {P : Program} {w : World} {K : PySem.W.Frag} {mg : Str → Option Value} {base : Heap}
local macro_rules | `(tactic| walk_at "len") => `(tactic| first | omega | (simp only [List.length_map, List.length_range, List.length_append, List.length_cons, List.length_nil, List.length_take, List.length_set, List.length_replicate]; omega) | (simp; omega))
/- a side condition -/
local macro_rules | `(tactic| walk_at "side") => `(tactic| first | exact trivial | omega | assumption | decide | decide +kernel | (refine ⟨?_, ?_⟩ <;> walk_at "side") | (simp only [List.length_map, List.length_range, List.length_append, List.length_cons, List.length_nil, List.length_take, List.length_set, List.length_replicate]; omega))
local macro_rules | `(tactic| walk_at "s") => `(tactic| first | refine stp ?_ | (with_reducible refine pre_i ?_ ?_; focus (walk_at "side"; done)) | (with_reducible refine br_yes ?_ ?_; focus (first | assumption | omega)) | (with_reducible refine br_no ?_ ?_; focus (first | assumption | omega)))
local macro_rules | `(tactic| walk_at "go") => `(tactic| repeat (walk_at "s"))
local macro_rules | `(tactic| walk_at "start") => `(tactic| (simp only [startD, List.map_cons, List.map_nil, List.length_cons, List.length_nil, Nat.reduceAdd, Nat.reduceSub, List.replicate, List.cons_append, List.nil_append, cxOf]))
inductive R_law_draw : List Dt → Dt → Prop
  | mk {cell k bound : Int} : (0 < bound) → R_law_draw [.int cell, .int k, .int bound] (.int (draw cell k bound))
instance fc_law_draw {cell k bound : Int} : FnC (R_law_draw) [.int cell, .int k, .int bound] (0 < bound) (.int (draw cell k bound)) := ⟨.mk⟩

inductive R_law_ways_by : List Dt → List Dt → Prop
  | mk {cell doors rooms : Int} : (0 ≤ doors ∧ doors ≤ 1000 ∧ 0 ≤ rooms ∧ rooms ≤ 1000) → R_law_ways_by [.int cell, .int doors, .int rooms] ((waysBy cell doors rooms).map dInts)
instance fc_law_ways_by {cell doors rooms : Int} : FnC (R_law_ways_by) [.int cell, .int doors, .int rooms] (0 ≤ doors ∧ doors ≤ 1000 ∧ 0 ≤ rooms ∧ rooms ≤ 1000) ((waysBy cell doors rooms).map dInts) := ⟨.mk⟩

inductive R_law_lamps_by : List Dt → List Dt → Prop
  | mk {cell rooms : Int} : (0 ≤ rooms ∧ rooms ≤ 1000) → R_law_lamps_by [.int cell, .int rooms] ((lampsBy cell rooms).map Dt.bl)
instance fc_law_lamps_by {cell rooms : Int} : FnC (R_law_lamps_by) [.int cell, .int rooms] (0 ≤ rooms ∧ rooms ≤ 1000) ((lampsBy cell rooms).map Dt.bl) := ⟨.mk⟩

inductive R_law_text_of : List Dt → List (List Dt) → Prop
  | mk {doors : Int} {ways : List (List Int)} {lamps : List Bool} : (HouseOk doors ways lamps) → R_law_text_of [.int doors, dRows ways, dBls lamps] (strRows (wordsH doors ways lamps))
instance fc_law_text_of {doors : Int} {ways : List (List Int)} {lamps : List Bool} : FnC (R_law_text_of) [.int doors, dRows ways, dBls lamps] (HouseOk doors ways lamps) (strRows (wordsH doors ways lamps)) := ⟨.mk⟩

inductive R_law_cell_at : List Dt → Dt → Prop
  | mk {ns : List Int} {k : Int} : (0 ≤ k) → R_law_cell_at [.scr ns, .int k] (.int (cellAt ns k))
instance fc_law_cell_at {ns : List Int} {k : Int} : FnC (R_law_cell_at) [.scr ns, .int k] (0 ≤ k) (.int (cellAt ns k)) := ⟨.mk⟩

theorem fig_in {f : Nat} (h : f ∈ ("0123456789" : Str).cps.toList) : 48 ≤ f ∧ f ≤ 57 := by
  rw [figs] at h
  simp only [List.mem_cons, List.not_mem_nil, or_false] at h
  omega
inductive R_number (X : Addr) : List Dt → Except Addr Dt → Prop
  | mk {w : Str} : ((∀ c ∈ TL.tl w, c < 1000) ∧ w.length ≤ 1000000) → R_number X [.str w] (resN X (numQ w))
instance fc_number {X : Addr} {w : Str} : FnC (R_number X) [.str w] ((∀ c ∈ TL.tl w, c < 1000) ∧ w.length ≤ 1000000) (resN X (numQ w)) := ⟨.mk⟩

inductive R_looked_through (X : Addr) : List Dt → Except Addr Dt → Prop
  | mk {doors : Int} {ways : List (List Int)} {lamps : List Bool} : (True) → R_looked_through X [.int doors, dRows ways, dBls lamps] (if HouseOk doors ways lamps then .ok .non else .error X)
instance fc_looked_through {X : Addr} {doors : Int} {ways : List (List Int)} {lamps : List Bool} : FnC (R_looked_through X) [.int doors, dRows ways, dBls lamps] (True) (if HouseOk doors ways lamps then .ok .non else .error X) := ⟨.mk⟩

inductive R_House_init (X : Addr) : List Dt → Except Addr (List Str × List Dt) → Prop
  | mk {doors : Int} {ways : List (List Int)} {lamps : List Bool} : (True) → R_House_init X [.int doors, dRows ways, dBls lamps] (if HouseOk doors ways lamps then .ok (["doors", "ways", "lamps"], [.int doors, dRows ways, dBls lamps]) else .error X)
instance fc_House_init {X : Addr} {doors : Int} {ways : List (List Int)} {lamps : List Bool} : FnC (R_House_init X) [.int doors, dRows ways, dBls lamps] (True) (if HouseOk doors ways lamps then .ok (["doors", "ways", "lamps"], [.int doors, dRows ways, dBls lamps]) else .error X) := ⟨.mk⟩

inductive R_made (C : Addr) (X : Addr) : List Dt → Except Addr Dt → Prop
  | mk {doors : Int} {ways : List (List Int)} {lamps : List Bool} : (True) → R_made C X [.int doors, dRows ways, dBls lamps] (if HouseOk doors ways lamps then .ok (dHouse C doors ways lamps) else .error X)
instance fc_made {C : Addr} {X : Addr} {doors : Int} {ways : List (List Int)} {lamps : List Bool} : FnC (R_made C X) [.int doors, dRows ways, dBls lamps] (True) (if HouseOk doors ways lamps then .ok (dHouse C doors ways lamps) else .error X) := ⟨.mk⟩

theorem row_dints {l : List Str} : Dt.lst (l.map fun q => Dt.int (numD q)) = dInts (l.map numD) := by
  show _ = Dt.lst _
  rw [List.map_map]; rfl
inductive R_read (C : Addr) (X : Addr) : List Dt → Except Addr Dt → Prop
  | mk {text : Str} : ((∀ c ∈ TL.tl text, c < 1000) ∧ text.length ≤ 1000000) → R_read C X [.str text] (if ReadOk text then .ok (dHouse C (dT text) (wT text) (lT text)) else .error X)
instance fc_read {C : Addr} {X : Addr} {text : Str} : FnC (R_read C X) [.str text] ((∀ c ∈ TL.tl text, c < 1000) ∧ text.length ≤ 1000000) (if ReadOk text then .ok (dHouse C (dT text) (wT text) (lT text)) else .error X) := ⟨.mk⟩

inductive R_law_stands_under (K : PySem.W.Frag) (CH : Addr) (a : Addr) : Value → List Dt → Dt → Prop
  | mk {D : Addr} : ExC K D → SubX K D CH true → ValX K D → R_law_stands_under K CH a (.ref D) [.ref a] (.bl true)
instance fc_law_stands_under {K : PySem.W.Frag} {CH a D : Addr} [h : ExC K D] [k : SubX K D CH true] [v : ValX K D] : FnC (R_law_stands_under K CH a (.ref D)) [.ref a] True (.bl true) := ⟨fun _ => .mk h k v⟩
inductive R_law_refused : List Dt → Dt → Prop
  | mk {text : Str} : (((∀ c ∈ TL.tl text, c < 1000) ∧ text.length ≤ 1000000) ∧ ¬ ReadOk text) → R_law_refused [.str text] (.bl true)
instance fc_law_refused {text : Str} : FnC (R_law_refused) [.str text] (((∀ c ∈ TL.tl text, c < 1000) ∧ text.length ≤ 1000000) ∧ ¬ ReadOk text) (.bl true) := ⟨.mk⟩

inductive R_law_odd_number : List Dt → Dt → Prop
  | mk {cell rooms : Int} {figures : Str} : (figures.length ≤ 3 ∧ 1 ≤ rooms ∧ rooms ≤ 15) → R_law_odd_number [.int cell, .str figures, .int rooms] (.str (oddS cell figures rooms))
instance fc_law_odd_number {cell rooms : Int} {figures : Str} : FnC (R_law_odd_number) [.int cell, .str figures, .int rooms] (figures.length ≤ 3 ∧ 1 ≤ rooms ∧ rooms ≤ 15) (.str (oddS cell figures rooms)) := ⟨.mk⟩

inductive R_law_truths : List Dt → Dt → Prop
  | mk {l : List Bool} : (True) → R_law_truths [dBls l, dBls l] (.bl true)
instance fc_law_truths {l : List Bool} : FnC (R_law_truths) [dBls l, dBls l] (True) (.bl true) := ⟨.mk⟩

inductive R_law_whole : List Dt → Dt → Prop
  | mk {i : Int} : (True) → R_law_whole [.int i] (.bl true)
instance fc_law_whole {i : Int} : FnC (R_law_whole) [.int i] (True) (.bl true) := ⟨.mk⟩

inductive R_law_numbers : List Dt → Dt → Prop
  | mk {l : List Int} : (True) → R_law_numbers [dInts l, dInts l] (.bl true)
instance fc_law_numbers {l : List Int} : FnC (R_law_numbers) [dInts l, dInts l] (True) (.bl true) := ⟨.mk⟩

inductive R_law_house_is (C : Addr) : List Dt → Dt → Prop
  | mk {doors : Int} {ways : List (List Int)} {lamps : List Bool} : (ways.length < 10000000) → R_law_house_is C [dHouse C doors ways lamps, .int doors, dRows ways, dBls lamps] (.bl true)
instance fc_law_house_is {C : Addr} {doors : Int} {ways : List (List Int)} {lamps : List Bool} : FnC (R_law_house_is C) [dHouse C doors ways lamps, .int doors, dRows ways, dBls lamps] (ways.length < 10000000) (.bl true) := ⟨.mk⟩

theorem tl_three {a b c : Str} {n : Nat} (e : TL.tl b = [n]) {l m : List Nat} (ha : a = mkS l := by rfl) (hc : c = mkS m := by rfl) : TL.tl (a ++ b ++ c) = l ++ n :: m := by
  rw [TL.tl_append, TL.tl_append, e, ha, hc, tl_mkS, tl_mkS]; simp
theorem len_app {a b : Str} : (a ++ b).length = a.length + b.length := by rw [len_str, len_str, len_str, TL.tl_append, List.length_append]
theorem cut_two {t : Str} {k : Nat} (h : t.length ≤ 600000) (hc : ∀ c ∈ TL.tl t, c < 1000) : (mkS ((TL.tl t).take k)).length ≤ 600000 ∧ (mkS ((TL.tl t).drop k)).length ≤ 600000 ∧ ∀ (c : Str) (n : Nat), TL.tl c = [n] → n < 1000 →
    c.length = 1 ∧ (mkS ((TL.tl t).take k) ++ c ++ mkS ((TL.tl t).drop k)).length ≤ 600001 ∧ ∀ x ∈ TL.tl (mkS ((TL.tl t).take k) ++ c ++ mkS ((TL.tl t).drop k)), x < 1000 := by
  have hl : (TL.tl t).length ≤ 600000 := by rw [← len_str]; exact h
  have h1 : (mkS ((TL.tl t).take k)).length = ((TL.tl t).take k).length := by rw [len_str, tl_mkS]
  have h2 : (mkS ((TL.tl t).drop k)).length = ((TL.tl t).drop k).length := by rw [len_str, tl_mkS]
  have h3 : ((TL.tl t).take k).length + ((TL.tl t).drop k).length = (TL.tl t).length := by rw [← List.length_append, List.take_append_drop]
  refine ⟨by omega, by omega, fun c n e hn => ?_⟩
  have h4 : c.length = 1 := by rw [len_str, e]; rfl
  refine ⟨h4, by rw [len_app, len_app]; omega, fun x hx => ?_⟩
  rw [tl_three e] at hx
  rcases List.mem_append.mp hx with z | z
  · exact hc x (List.mem_of_mem_take z)
  · rcases List.mem_cons.mp z with z | z
    · omega
    · exact hc x (List.mem_of_mem_drop z)
theorem ok__law_draw (T : Txt K mg) : FnOk P w K mg base (L2.CX P w) 1 T.a__law_draw T.fd__law_draw ["cell", "k", "bound"] (spG K 3 (fnV (R_law_draw))) := by
  refine T.f__law_draw.okX sc__law_draw (fun vs H Q E h => sp_len h) (fun cdv A outer s H vs Q E hr h => ?_)
  have hu := hr.units
  have hu1 := hu_of hr
  have hu2 := units65 hr
  refine ⟨_, (pss_cons (ps_set (i := 3) (sc__law_draw).nd rfl (by first | exact Or.inl rfl | exact Or.inr rfl) (pe_op o_mod (pe_op o_mul (pe_op o_plus (pe_op o_plus (pe_op o_mod (pv 0) pe_int) (pe_op o_mul pe_int (pv 1))) pe_int) pe_int) pe_int))
      (pss_cons (ps_set (i := 3) (sc__law_draw).nd rfl (by first | exact Or.inl rfl | exact Or.inr rfl) (pe_op o_mod (pe_op o_mul (pe_op o_plus (pv 3) (pe_op o_mul pe_int (pe_op o_plus (pv 1) pe_int))) pe_int) pe_int))
      (pss_one (ps_ret (pe_op o_mod (pe_op o_div (pv 3) pe_int) (pv 2)))))), ?_⟩
  refine enterV h fun B ds d hT hR hX => ?_
  clear hr hu hu1 hu2 h
  obtain @⟨cell, k, bound, h0⟩ := hR
  walk_at "start"
  walk_at "go"
  exact rfl
theorem ok__law_ways_by (T : Txt K mg) : FnOk P w K mg base (L2.CX P w) 2 T.a__law_ways_by T.fd__law_ways_by ["cell", "doors", "rooms"] (spG K 3 (fnL (R_law_ways_by))) := by
  refine T.f__law_ways_by.okX sc__law_ways_by (fun vs H Q E h => sp_len h) (fun cdv A outer s H vs Q E hr h => ?_)
  have hu := hr.units
  have hu1 := hu_of hr
  have hu2 := units65 hr
  refine ⟨_, (pss_cons (ps_own (ps_set (i := 3) (sc__law_ways_by).nd rfl (by first | exact Or.inl rfl | exact Or.inr rfl) (pe_lst pa_nil)))
      (pss_cons (ps_for (passes_of rfl) rfl (pi_range1 rfl T.n_range (pa_cons (pv 2) pa_nil)) (pg_name (i := 4) (sc__law_ways_by).nd rfl (by first | exact Or.inl rfl | exact Or.inr rfl))
      (pss_one (ps_expr (pe_bmK (K := K) rfl PySem.F.plainAttrs_list PySem.F.slot_list_append PySem.F.type_list_append mt_append (pv 3) (pa_cons (pe_lc (own := [("door", 5)]) rfl (sc__law_ways_by).nd (pi_range1 rfl T.n_range (pa_cons (pv 1) pa_nil)) (blkOk_by (N := ["cell", "doors", "rooms", "ways", "k", "door"]) (sc := defScope st__law_ways_by) (by decide +kernel)) (fun _ _ _ _ _ => (pg_name (i := 5) (sc__law_ways_by).nd rfl (by first | exact Or.inl rfl | exact Or.inr rfl))) (fun _ _ _ _ _ => pts_nil) (fun _ _ _ _ _ => (pe_callS (ok__law_draw T) (hr.mono (by decide)) rfl T.g__law_draw T.f__law_draw.kp T.b__law_draw (fun σ => passAt takes0 σ) (pa_cons (pv 0) (pa_cons (pe_op o_plus (pe_op o_mul pe_int (pv 4)) (pv 5)) (pa_cons (pv 2) pa_nil)))))) pa_nil)))))
      (pss_one (ps_ret (pv 3))))), ?_⟩
  refine enterL h fun B ds es hT hR hX => ?_
  clear hr hu hu1 hu2 h
  obtain @⟨cell, doors, rooms, h0⟩ := hR
  walk_at "start"
  obtain ⟨h1, h2, h3, h4⟩ := h0
  walk_at "go"
  intro p hp
  walk_at "go"
  refine forD_r (fun i s M => ∃ k, s = [some (.int cell), some (.int doors), some (.int rooms), some (.ref p), k, none] ∧ M = [.one p (.lst (((waysBy cell doors rooms).take i).map dInts))]) ⟨none, rfl, rfl⟩ (fun i s' M' hi hI => ?_) fun s' M' hI => ?_
  · obtain ⟨k, rfl, rfl⟩ := hI
    have hl : ((waysBy cell doors rooms).take i).length ≤ 1000 := by rw [List.length_take, waysBy_length]; omega
    walk_at "go"
    refine lcD_rng Dt.int (fun d : Nat => draw cell (7 * (i : Int) + (d : Int)) rooms) (by decide) (by omega) (fun d q acc hd hq => ?_) ?_
    · walk_at "go"
      exact ⟨rfl, rfl⟩
    · walk_at "go"
      refine ⟨_, rfl, ?_⟩
      rw [waysBy_take hi, rowBy]
  · obtain ⟨k, rfl, rfl⟩ := hI
    walk_at "go"
    rw [take_all (waysBy_length _ _ _)]
theorem ok__law_lamps_by (T : Txt K mg) : FnOk P w K mg base (L2.CX P w) 2 T.a__law_lamps_by T.fd__law_lamps_by ["cell", "rooms"] (spG K 2 (fnL (R_law_lamps_by))) := by
  refine T.f__law_lamps_by.okX sc__law_lamps_by (fun vs H Q E h => sp_len h) (fun cdv A outer s H vs Q E hr h => ?_)
  have hu := hr.units
  have hu1 := hu_of hr
  have hu2 := units65 hr
  refine ⟨_, (pss_one (ps_ret (pe_own (pe_lc (own := [("k", 2)]) rfl (sc__law_lamps_by).nd (pi_range1 rfl T.n_range (pa_cons (pv 1) pa_nil)) (blkOk_by (N := ["cell", "rooms", "k"]) (sc := defScope st__law_lamps_by) (by decide +kernel)) (fun _ _ _ _ _ => (pg_name (i := 2) (sc__law_lamps_by).nd rfl (by first | exact Or.inl rfl | exact Or.inr rfl))) (fun _ _ _ _ _ => pts_nil) (fun _ _ _ _ _ => (pe_cmpR (ok_eq (K := K) rfl hu) (pe_callS (ok__law_draw T) (hr.mono (by decide)) rfl T.g__law_draw T.f__law_draw.kp T.b__law_draw (fun σ => passAt takes0 σ) (pa_cons (pv 0) (pa_cons (pv 2) (pa_cons pe_int pa_nil)))) pe_int (nomark _))))))), ?_⟩
  refine enterL h fun B ds es hT hR hX => ?_
  clear hr hu hu1 hu2 h
  obtain @⟨cell, rooms, h0⟩ := hR
  walk_at "start"
  obtain ⟨h1, h2⟩ := h0
  walk_at "go"
  refine lcD_rng Dt.bl (fun d : Nat => decide (draw cell (d : Int) 2 = 1)) (by decide) (by omega) (fun d q acc hd hq => ?_) ?_
  · walk_at "go"
    exact ⟨rfl, rfl⟩
  · intro p hp
    rw [lampsBy]
    walk_at "go"
    rfl
theorem ok__law_text_of (T : Txt K mg) : FnOk P w K mg base (L2.CX P w) 1 T.a__law_text_of T.fd__law_text_of ["doors", "ways", "lamps"] (spG K 3 (fnM (R_law_text_of))) := by
  refine T.f__law_text_of.okX sc__law_text_of (fun vs H Q E h => sp_len h) (fun cdv A outer s H vs Q E hr h => ?_)
  have hu := hr.units
  have hu1 := hu_of hr
  have hu2 := units65 hr
  refine ⟨_, (pss_cons (ps_many (ps_set (i := 3) (sc__law_text_of).nd rfl (by first | exact Or.inl rfl | exact Or.inr rfl) (pe_lst (pa_cons (pe_lst (pa_cons pe_str (pa_cons (pe_callTy ck_str (by rfl) T.n_str (by decide +kernel) (pa_cons (pv 0) pa_nil)) pa_nil))) pa_nil))))
      (pss_cons (ps_for (passes_of rfl) rfl (pi_range1 rfl T.n_range (pa_cons (pe_callB (ck_len (K := K) rfl) (by rfl) T.n_len (by decide +kernel) (pa_cons (pv 1) pa_nil)) pa_nil)) (pg_name (i := 4) (sc__law_text_of).nd rfl (by first | exact Or.inl rfl | exact Or.inr rfl))
      (pss_one (ps_expr (pe_bmK (K := K) rfl PySem.F.plainAttrs_list PySem.F.slot_list_append PySem.F.type_list_append mt_append (pv 3) (pa_cons (pe_own (pe_op o_plus (pe_lst (pa_cons (pe_ix (ix_seqK (K := K) rfl) (pe_lst (pa_cons pe_str (pa_cons pe_str pa_nil))) (pe_callTy c_int (by rfl) T.n_int (by decide +kernel) (pa_cons (pe_ix (ix_seqK (K := K) rfl) (pv 2) (pv 4) (fun _ _ => rfl)) pa_nil)) (fun _ _ => rfl)) pa_nil)) (pe_lc (own := [("to", 5)]) rfl (sc__law_text_of).nd (pik_list (K := K) rfl (pe_ix (ix_seqK (K := K) rfl) (pv 1) (pv 4) (fun _ _ => rfl))) (blkOk_by (N := ["doors", "ways", "lamps", "rows", "k", "to"]) (sc := defScope st__law_text_of) (by decide +kernel)) (fun _ _ _ _ _ => (pg_name (i := 5) (sc__law_text_of).nd rfl (by first | exact Or.inl rfl | exact Or.inr rfl))) (fun _ _ _ _ _ => pts_nil) (fun _ _ _ _ _ => (pe_callTy ck_str (by rfl) T.n_str (by decide +kernel) (pa_cons (pv 5) pa_nil)))))) pa_nil)))))
      (pss_one (ps_ret (pv 3))))), ?_⟩
  refine enterM h fun B ds rows hT hR hX => ?_
  clear hr hu hu1 hu2 h
  obtain @⟨doors, ways, lamps, h0⟩ := hR
  walk_at "start"
  have hk := h0
  have hd1 := hk.1
  have hd6 := hk.2.1
  have hw4 := hk.2.2.2.1
  have hll := hk.2.2.2.2.1
  walk_at "go"
  intro p q hp hq
  walk_at "go"
  refine forD_r (fun i s M => ∃ x4 x5 ps, ps.length = i + 1 ∧ s = [some (.int doors), some (dRows ways), some (dBls lamps), some (.ref p), x4, x5] ∧ M = [.one p (.lst (refs ps)), .many ps (strRows ([Str.ofString "doors", numI doors] :: (List.range i).map fun i : Nat => lampS (gt lamps (i : Int)) :: (gt ways (i : Int)).map numI))]) ⟨_, _, [q], rfl, rfl, rfl⟩ (fun i s M hi hI => ?_) fun s M hI => ?_
  · obtain ⟨x4, x5, ps, hps, rfl, rfl⟩ := hI
    have hro := row_len hk (r := (i : Int)) (by omega)
    have hsh := ways_short hk (i := (i : Int)) (by omega) (by omega)
    walk_at "go"
    cases hlb : gt lamps (i : Int) with
    | true =>
      rw [if_pos rfl]
      walk_at "go"
      refine lcD_lst Dt.str numI (by decide) (by omega) (fun x q acc hx hq => ?_) ?_
      · have hx2 := hsh x hx
        walk_at "go"
        exact ⟨rfl, rfl⟩
      walk_at "go"
      intro q2 hq2
      refine a_lay lay_join ?_
      walk_at "go"
      refine ⟨_, _, ps ++ [q2], by simp [hps], rfl, ?_⟩
      rw [refs_snoc, List.range_succ, List.map_append, List.map_cons, List.map_nil, hlb]
      simp [strRows, lampS]
    | false =>
      rw [if_neg (by decide)]
      walk_at "go"
      refine lcD_lst Dt.str numI (by decide) (by omega) (fun x q acc hx hq => ?_) ?_
      · have hx2 := hsh x hx
        walk_at "go"
        exact ⟨rfl, rfl⟩
      walk_at "go"
      intro q2 hq2
      refine a_lay lay_join ?_
      walk_at "go"
      refine ⟨_, _, ps ++ [q2], by simp [hps], rfl, ?_⟩
      rw [refs_snoc, List.range_succ, List.map_append, List.map_cons, List.map_nil, hlb]
      simp [strRows, lampS]
  · obtain ⟨x4, x5, ps, hps, rfl, rfl⟩ := hI
    walk_at "go"
    rw [Int.toNat_natCast] at hps ⊢
    exact ⟨p, ps, by rw [hps]; simp [strRows, wordsH], rfl, rfl⟩
theorem ok__law_cell_at (T : Txt K mg) : FnOk P w K mg base (L2.CX P w) 1 T.a__law_cell_at T.fd__law_cell_at ["script", "k"] (spG K 2 (fnV (R_law_cell_at))) := by
  refine T.f__law_cell_at.okX sc__law_cell_at (fun vs H Q E h => sp_len h) (fun cdv A outer s H vs Q E hr h => ?_)
  have hu := hr.units
  have hu1 := hu_of hr
  have hu2 := units65 hr
  refine ⟨_, (pss_cons (ps_if (pt_cmpR o_lt (pv 1) (pe_callB (ck_len (K := K) rfl) (by rfl) T.n_len (by decide +kernel) (pa_cons (pv 0) pa_nil)) (nomark _)) (pss_one (ps_ret (pe_ix (ix_seqK (K := K) rfl) (pv 0) (pv 1) (fun _ _ => rfl)))) pss_nil)
      (pss_one (ps_ret pe_int))), ?_⟩
  refine enterV h fun B ds d hT hR hX => ?_
  clear hr hu hu1 hu2 h
  obtain @⟨ns, k, h0⟩ := hR
  walk_at "start"
  walk_at "go"
  refine br_i (fun hb => ?_) fun hb => ?_
  · walk_at "go"
    exact rfl
  · walk_at "go"
    unfold cellAt gt
    rw [List.getD_eq_getElem?_getD, List.getElem?_eq_none (by omega)]; rfl
theorem ok_number (T : Txt K mg) : FnOk P w K mg base (L2.CX P w) 1 T.a_number T.fd_number ["word"] (spG K 1 (fnX (R_number T.c_BadText))) := by
  refine T.f_number.okX sc_number (fun vs H Q E h => sp_len h) (fun cdv A outer s H vs Q E hr h => ?_)
  have hu := hr.units
  have hu1 := hu_of hr
  have hu2 := units65 hr
  refine ⟨_, (pss_cons (ps_if (PW.pt (pw_or (pt_not (pt_chain o_le o_le pe_int (pe_callB (ck_len (K := K) rfl) (by rfl) T.n_len (by decide +kernel) (pa_cons (pv 0) pa_nil)) pe_int)) (pw_or1 (PW.pt (pw_and (pt_cmpR (ok_eq (K := K) rfl hu) (pe_ix (ix_seqK (K := K) rfl) (pv 0) pe_int (fun _ _ => rfl)) pe_str (nomark _)) (pw_and1 (pt_cmpR (ok_ne (K := K) rfl hu) (pv 0) pe_str (nomark _)))))))) (pss_one (ps_rsV rfl (takes_of rfl rfl rfl rfl) T.x_BadText T.g_BadText T.k_BadText (raises_own T.s_BadText T.t_BadText) rfl)) pss_nil)
      (pss_cons (ps_for (passes_of rfl) rfl (pi_str (pv 0)) (pg_name (i := 1) (sc_number).nd rfl (by first | exact Or.inl rfl | exact Or.inr rfl))
      (pss_one (ps_if (pt_cmpR op_notInS (pv 1) (pe_glob (v := .str "0123456789") rfl T.g_FIGURES ⟨_, rfl⟩) rfl) (pss_one (ps_rsV rfl (takes_of rfl rfl rfl rfl) T.x_BadText T.g_BadText T.k_BadText (raises_own T.s_BadText T.t_BadText) rfl)) pss_nil)))
      (pss_one (ps_ret (pe_callTy ck_intS (by rfl) T.n_int (by decide +kernel) (pa_cons (pv 0) pa_nil)))))), ?_⟩
  refine enterX h fun B ds r hT hR hX => ?_
  clear hr hu hu1 hu2 h
  obtain @⟨w, h0⟩ := hR
  walk_at "start"
  obtain ⟨hc, hl⟩ := h0
  have okw : PyData.strOk w = true := ok_of hc
  have bad : numQ w = none → resN T.c_BadText (numQ w) = Except.error T.c_BadText := fun e => by rw [e]; rfl
  have good : ∀ x, numQ w = some x → (0 ≤ x ∧ x < 1000) ∧ w = numI x := fun x e => numQ_some e
  have split : (numQ w = none) ∨ ∃ x, numQ w = some x := by cases e : numQ w with
    | none => exact .inl rfl
    | some x => exact .inr ⟨x, rfl⟩
  have lens : ∀ x, numQ w = some x → 1 ≤ w.length ∧ w.length ≤ 3 := fun x e => by
    obtain ⟨a, b⟩ := good x e
    rw [b]; exact len_num a
  walk_at "go"
  refine br_i (fun h1 => ?_) fun h1 => ?_
  case refine_2 =>
    walk_at "go"
    refine bad ?_
    rcases split with e | ⟨x, e⟩
    · exact e
    · have := lens x e; omega
  walk_at "go"
  refine br_i (fun h2 => ?_) fun h2 => ?_
  case refine_2 =>
    walk_at "go"
    refine bad ?_
    rcases split with e | ⟨x, e⟩
    · exact e
    · have := lens x e; omega
  obtain ⟨c, l, ew⟩ : ∃ c l, TL.tl w = c :: l := List.exists_cons_of_ne_nil fun z => by rw [len_str, z] at h1; simp at h1
  have hat : atI w.cps.toList 0 = some c := by
    show atI (TL.tl w) 0 = some c
    rw [ew]; exact (show atI (c :: l) ((0 : Nat) : Int) = some c from atI_nat rfl)
  have okc := sign_ok (c := c) (hc c (by rw [ew]; simp))
  walk_at "go"
  refine p_ixS (by omega) hat ?_
  walk_at "go"
  refine br_i (fun hzc => ?_) fun hzc => ?_
  · walk_at "go"
    refine br_i (fun hne => ?_) fun hne => ?_
    · walk_at "go"
      refine bad ?_
      rcases split with e | ⟨x, e⟩
      · exact e
      · obtain ⟨a1, a2⟩ := good x e
        exfalso
        obtain ⟨c2, b1, b2, b3, b4⟩ := num_at0 a1
        rw [← a2, hat] at b1
        cases b1
        exact hne (a2.trans (b4 (sign_zero.mp hzc)))
    · have hz : (TL.tl w).head? = some 48 → TL.tl w = [48] := fun _ => by
        have : w = Str.ofString "0" := Classical.byContradiction hne
        rw [this]; decide +kernel
      walk_at "go"
      refine ⟨_, rfl, fun i s M => (∃ x1, s = [some (.str w), x1]) ∧ M = [] ∧ ∀ c ∈ (TL.tl w).take i, 48 ≤ c ∧ c ≤ 57, ⟨⟨_, rfl⟩, rfl, by simp⟩, fun i f s M hf hI => ?_, fun s M hI => ?_⟩
      · obtain ⟨⟨x1, rfl⟩, rfl, hI⟩ := hI
        have hfm : f ∈ TL.tl w := List.mem_of_getElem? hf
        by_cases hq : f ∈ ("0123456789" : Str).cps.toList
        · walk_at "go"
          refine ⟨⟨_, rfl⟩, rfl, fun g hg => ?_⟩
          rw [take_snoc (show (TL.tl w)[i]? = some f from hf)] at hg
          rcases List.mem_append.mp hg with z | z
          · exact hI g z
          · rw [List.mem_singleton.mp z]; exact fig_in hq
        · walk_at "go"
          refine bad ?_
          rcases split with e | ⟨x, e⟩
          · exact e
          · obtain ⟨a1, a2⟩ := good x e
            exact absurd (num_fig a1 (by rw [a2] at hf; exact List.mem_of_getElem? hf)) hq
      · obtain ⟨⟨x1, rfl⟩, rfl, hI⟩ := hI
        rw [show w.cps.toList = TL.tl w from rfl, List.take_length] at hI
        have e : numQ w = some (valC (TL.tl w) : Int) := by
          unfold numQ numC
          rw [if_pos ⟨⟨by rw [← len_str]; omega, by rw [← len_str]; omega⟩, hz, hI⟩]
        obtain ⟨a1, a2⟩ := good _ e
        have hi := num_int a1
        rw [← a2] at hi
        walk_at "go"
        refine p_intS hi (by omega) ?_
        walk_at "go"
        rw [e]; rfl
  · have hz : (TL.tl w).head? = some 48 → TL.tl w = [48] := fun e => by
      rw [ew] at e
      have : c = 48 := by simpa using e
      exact absurd (sign_zero.mpr this) hzc
    walk_at "go"
    refine ⟨_, rfl, fun i s M => (∃ x1, s = [some (.str w), x1]) ∧ M = [] ∧ ∀ c ∈ (TL.tl w).take i, 48 ≤ c ∧ c ≤ 57, ⟨⟨_, rfl⟩, rfl, by simp⟩, fun i f s M hf hI => ?_, fun s M hI => ?_⟩
    · obtain ⟨⟨x1, rfl⟩, rfl, hI⟩ := hI
      have hfm : f ∈ TL.tl w := List.mem_of_getElem? hf
      by_cases hq : f ∈ ("0123456789" : Str).cps.toList
      · walk_at "go"
        refine ⟨⟨_, rfl⟩, rfl, fun g hg => ?_⟩
        rw [take_snoc (show (TL.tl w)[i]? = some f from hf)] at hg
        rcases List.mem_append.mp hg with z | z
        · exact hI g z
        · rw [List.mem_singleton.mp z]; exact fig_in hq
      · walk_at "go"
        refine bad ?_
        rcases split with e | ⟨x, e⟩
        · exact e
        · obtain ⟨a1, a2⟩ := good x e
          exact absurd (num_fig a1 (by rw [a2] at hf; exact List.mem_of_getElem? hf)) hq
    · obtain ⟨⟨x1, rfl⟩, rfl, hI⟩ := hI
      rw [show w.cps.toList = TL.tl w from rfl, List.take_length] at hI
      have e : numQ w = some (valC (TL.tl w) : Int) := by
        unfold numQ numC
        rw [if_pos ⟨⟨by rw [← len_str]; omega, by rw [← len_str]; omega⟩, hz, hI⟩]
      obtain ⟨a1, a2⟩ := good _ e
      have hi := num_int a1
      rw [← a2] at hi
      walk_at "go"
      refine p_intS hi (by omega) ?_
      walk_at "go"
      rw [e]; rfl
theorem ok_looked_through (T : Txt K mg) : FnOk P w K mg base (L2N.CX P w) 1 T.a_looked_through T.fd_looked_through ["doors", "ways", "lamps"] (spG K 3 (fnX (R_looked_through T.c_BadHouse))) := by
  refine Ask.Fun.okN T.f_looked_through sc_looked_through (fun vs H Q E h => sp_len h) (fun cdv A outer s H vs Q E hr h => ?_)
  have hu := hr.units
  have hu1 := hu_of hr
  have hu2 := units65 hr
  refine ⟨_, (pss_cons (ps_if (pt_not (pt_chain o_le o_le pe_int (pv 0) (pe_glob (v := .int 6) rfl T.g_MOST_DOORS ⟨_, rfl⟩))) (pss_one (ps_rsVN rfl (L2N.takes_of rfl rfl rfl rfl) T.x_BadHouse T.g_BadHouse T.k_BadHouse (raises_own T.s_BadHouse T.t_BadHouse) rfl)) pss_nil)
      (pss_cons (ps_if (PW.pt (pw_or (pt_not (pt_chain o_le o_le pe_int (pe_callB (ck_len (K := K) rfl) (by rfl) T.n_len (by decide +kernel) (pa_cons (pv 1) pa_nil)) (pe_glob (v := .int 400) rfl T.g_MOST_ROOMS ⟨_, rfl⟩))) (pw_or1 (pt_cmpR (ok_ne (K := K) rfl hu) (pe_callB (ck_len (K := K) rfl) (by rfl) T.n_len (by decide +kernel) (pa_cons (pv 2) pa_nil)) (pe_callB (ck_len (K := K) rfl) (by rfl) T.n_len (by decide +kernel) (pa_cons (pv 1) pa_nil)) (nomark _))))) (pss_one (ps_rsVN rfl (L2N.takes_of rfl rfl rfl rfl) T.x_BadHouse T.g_BadHouse T.k_BadHouse (raises_own T.s_BadHouse T.t_BadHouse) rfl)) pss_nil)
      (pss_one (ps_for (passes_of rfl) rfl (pik_list (K := K) rfl (pv 1)) (pg_name (i := 3) (sc_looked_through).nd rfl (by first | exact Or.inl rfl | exact Or.inr rfl))
      (pss_cons (ps_if (pt_cmpR (ok_ne (K := K) rfl hu) (pe_callB (ck_len (K := K) rfl) (by rfl) T.n_len (by decide +kernel) (pa_cons (pv 3) pa_nil)) (pv 0) (nomark _)) (pss_one (ps_rsVN rfl (L2N.takes_of rfl rfl rfl rfl) T.x_BadHouse T.g_BadHouse T.k_BadHouse (raises_own T.s_BadHouse T.t_BadHouse) rfl)) pss_nil)
      (pss_one (ps_for (passes_of rfl) rfl (pik_list (K := K) rfl (pv 3)) (pg_name (i := 4) (sc_looked_through).nd rfl (by first | exact Or.inl rfl | exact Or.inr rfl))
      (pss_one (ps_if (pt_not (pt_chain o_le o_lt pe_int (pv 4) (pe_callB (ck_len (K := K) rfl) (by rfl) T.n_len (by decide +kernel) (pa_cons (pv 1) pa_nil)))) (pss_one (ps_rsVN rfl (L2N.takes_of rfl rfl rfl rfl) T.x_BadHouse T.g_BadHouse T.k_BadHouse (raises_own T.s_BadHouse T.t_BadHouse) rfl)) pss_nil))))))))), ?_⟩
  refine enterX h fun B ds r hT hR hX => ?_
  clear hr hu hu1 hu2 h
  obtain @⟨doors, ways, lamps, h0⟩ := hR
  walk_at "start"
  have bad : ¬ HouseOk doors ways lamps → (if HouseOk doors ways lamps then Except.ok Dt.non else Except.error T.c_BadHouse) = Except.error T.c_BadHouse := fun n => if_neg n
  walk_at "go"
  refine br_i (fun h1 => ?_) fun h1 => ?_
  case refine_2 => walk_at "go"; exact bad fun z => h1 z.1
  walk_at "go"
  refine br_i (fun h2 => ?_) fun h2 => ?_
  case refine_2 => walk_at "go"; exact bad fun z => h2 z.2.1
  walk_at "go"
  refine br_i (fun h3 => ?_) fun h3 => ?_
  case refine_2 => walk_at "go"; exact bad fun z => h3 z.2.2.1
  walk_at "go"
  refine br_i (fun h4 => ?_) fun h4 => ?_
  case refine_2 => walk_at "go"; exact bad fun z => h4 z.2.2.2.1
  walk_at "go"
  refine br_i (fun h5 => ?_) fun h5 => ?_
  case refine_1 => walk_at "go"; exact bad fun z => h5 (by have := z.2.2.2.2.1; omega)
  walk_at "go"
  refine forD_i (fun i s M => ∃ a b, s = [some (.int doors), some (dRows ways), some (dBls lamps), a, b] ∧ M = [] ∧ ∀ r ∈ ways.take i, RowOk doors ways.length r) ⟨none, none, rfl, rfl, by simp⟩ (fun i row s' M' hr hI => ?_) fun s' M' hI => ?_
  · obtain ⟨a, b, rfl, rfl, hI⟩ := hI
    have hm : row ∈ ways := List.mem_of_getElem? hr
    walk_at "go"
    refine br_i (fun h6 => ?_) fun h6 => ?_
    case refine_1 => walk_at "go"; exact bad fun z => h6 (z.2.2.2.2.2 row hm).1
    walk_at "go"
    refine forD_i (fun j s M => ∃ b, s = [some (.int doors), some (dRows ways), some (dBls lamps), some (dInts row), b] ∧ M = [] ∧ ∀ x ∈ row.take j, 0 ≤ x ∧ x < (ways.length : Int)) ⟨b, rfl, rfl, by simp⟩ (fun j x s' M' hx hJ => ?_) fun s' M' hJ => ?_
    · obtain ⟨b, rfl, rfl, hJ⟩ := hJ
      have hmx : x ∈ row := List.mem_of_getElem? hx
      walk_at "go"
      refine br_i (fun h7 => ?_) fun h7 => ?_
      case refine_2 => walk_at "go"; exact bad fun z => h7 ((z.2.2.2.2.2 row hm).2 x hmx).1
      walk_at "go"
      refine br_i (fun h8 => ?_) fun h8 => ?_
      case refine_2 => walk_at "go"; exact bad fun z => h8 ((z.2.2.2.2.2 row hm).2 x hmx).2
      walk_at "go"
      refine ⟨_, rfl, rfl, fun y hy => ?_⟩
      rcases mem_take_succ hx hy with q | rfl
      · exact hJ y q
      · exact ⟨h7, h8⟩
    · obtain ⟨b, rfl, rfl, hJ⟩ := hJ
      rw [List.take_length] at hJ
      refine ⟨_, _, rfl, rfl, fun r hr' => ?_⟩
      rcases mem_take_succ hr hr' with q | rfl
      · exact hI r q
      · exact ⟨by omega, hJ⟩
  · obtain ⟨a, b, rfl, rfl, hI⟩ := hI
    rw [List.take_length] at hI
    exact if_pos ⟨by omega, by omega, by omega, by omega, by omega, hI⟩
theorem ok_House_init (T : Txt K mg) : FnOk P w K mg base (L2N.CX P w) 2 T.a_House_init T.fd_House_init ["self", "doors", "ways", "lamps"] (spG K 4 (fnI T.c_House (R_House_init T.c_BadHouse))) := by
  refine Ask.Fun.okN T.f_House_init sc_House_init (fun vs H Q E h => sp_len h) (fun cdv A outer s H vs Q E hr h => ?_)
  have hu := hr.units
  have hu1 := hu_of hr
  have hu2 := units65 hr
  refine ⟨_, (pss_cons (ps_expr (pe_callS (ok_looked_through T) (hr.mono (by decide)) rfl T.g_looked_through T.f_looked_through.kp T.b_looked_through (fun σ => L2N.passAt (L2N.takes_of rfl rfl rfl rfl) σ) (pa_cons (pv 1) (pa_cons (pv 2) (pa_cons (pv 3) pa_nil)))))
      (pss_cons (ps_fldK (K := K) rfl (pv 0) (pv 1) rfl)
      (pss_cons (ps_fldK (K := K) rfl (pv 0) (pe_lc (own := [("row", 4)]) rfl (sc_House_init).nd (pik_list (K := K) rfl (pv 2)) (blkOk_by (N := ["self", "doors", "ways", "lamps", "row"]) (sc := defScope st_House_init) (by decide +kernel)) (fun _ _ _ _ _ => (pg_name (i := 4) (sc_House_init).nd rfl (by first | exact Or.inl rfl | exact Or.inr rfl))) (fun _ _ _ _ _ => pts_nil) (fun _ _ _ _ _ => (pe_callTy (ck_list (K := K) rfl) (by rfl) T.n_list (by decide +kernel) (pa_cons (pv 4) pa_nil)))) rfl)
      (pss_one (ps_fldK (K := K) rfl (pv 0) (pe_callTy (ck_list (K := K) rfl) (by rfl) T.n_list (by decide +kernel) (pa_cons (pv 3) pa_nil)) rfl))))), ?_⟩
  refine enterI h fun B p as r hT hR hX => ?_
  clear hr hu hu1 hu2 h
  obtain @⟨doors, ways, lamps, h0⟩ := hR
  walk_at "start"
  walk_at "go"
  refine br_i (fun hk => ?_) fun hk => ?_
  · have hl := hk.2.2.2.1
    walk_at "go"
    refine lcD_map dInts (by decide) (by omega) (fun row q acc hr hq => ?_) ?_
    · walk_at "go"
      exact ⟨rfl, rfl⟩
    · walk_at "go"
      exact ⟨_, _, rfl, if_pos hk⟩
  · walk_at "go"
    exact ⟨if_neg hk, rfl⟩
theorem ok_made (T : Txt K mg) : FnOk P w K mg base (L2.CX P w) 4 T.a_made T.fd_made ["doors", "ways", "lamps"] (spG K 3 (fnX (R_made T.c_House T.c_BadText))) := by
  refine T.f_made.okX sc_made (fun vs H Q E h => sp_len h) (fun cdv A outer s H vs Q E hr h => ?_)
  have hu := hr.units
  have hu1 := hu_of hr
  have hu2 := units65 hr
  refine ⟨_, (pss_one (ps_tryO (K := K) (c := .ref T.c_BadHouse) rfl rfl rfl ⟨rfl, by decide, Or.inl T.g_BadHouse⟩ (fun hd => L2H.passesAt_of rfl hd) (takes_of rfl rfl rfl rfl) (fun W pn xe tkN tkP po => (pss_one (ps_ret (pe_makeS T.mk_House (ok_House_init T) (hr.mono (by decide)) rfl T.g_House T.b_House_init (fun σ => L2N.passAt tkN σ) (pa_cons (pv 0) (pa_cons (pv 1) (pa_cons (pv 2) pa_nil)))))))
      (fun a oe cls d pn hz hf tkS hot => (pss_one (ps_rsVH hot tkS T.x_BadText T.g_BadText T.k_BadText (raises_own T.s_BadText T.t_BadText) rfl))))), ?_⟩
  refine enterX h fun B ds r hT hR hX => ?_
  clear hr hu hu1 hu2 h
  obtain @⟨doors, ways, lamps, h0⟩ := hR
  walk_at "start"
  walk_at "go"
  refine w_tryO fun B' W hT' hX' => ?_
  walk_at "go"
  refine br_i (fun hk => ?_) fun hk => ?_
  · walk_at "go"
    rw [if_pos hk]
  · walk_at "go"
    intro a
    walk_at "go"
    rw [if_neg hk]
theorem ok_read (T : Txt K mg) : FnOk P w K mg base (L2.CX P w) 5 T.a_read T.fd_read ["text"] (spG K 1 (fnX (R_read T.c_House T.c_BadText))) := by
  refine T.f_read.okX sc_read (fun vs H Q E h => sp_len h) (fun cdv A outer s H vs Q E hr h => ?_)
  have hu := hr.units
  have hu1 := hu_of hr
  have hu2 := units65 hr
  refine ⟨_, (pss_cons (ps_set (i := 1) (sc_read).nd rfl (by first | exact Or.inl rfl | exact Or.inr rfl) (pe_splitK (pv 0) pe_str))
      (pss_cons (ps_set (i := 2) (sc_read).nd rfl (by first | exact Or.inl rfl | exact Or.inr rfl) (pe_splitK (pe_ix (ix_seqK (K := K) rfl) (pv 1) pe_int (fun _ _ => rfl)) pe_str))
      (pss_cons (ps_if (PW.pt (pw_or (pt_cmpR (ok_ne (K := K) rfl hu) (pe_callB (ck_len (K := K) rfl) (by rfl) T.n_len (by decide +kernel) (pa_cons (pv 2) pa_nil)) pe_int (nomark _)) (pw_or1 (pt_cmpR (ok_ne (K := K) rfl hu) (pe_ix (ix_seqK (K := K) rfl) (pv 2) pe_int (fun _ _ => rfl)) pe_str (nomark _))))) (pss_one (ps_rsV rfl (takes_of rfl rfl rfl rfl) T.x_BadText T.g_BadText T.k_BadText (raises_own T.s_BadText T.t_BadText) rfl)) pss_nil)
      (pss_cons (ps_set (i := 3) (sc_read).nd rfl (by first | exact Or.inl rfl | exact Or.inr rfl) (pe_callS (ok_number T) (hr.mono (by decide)) rfl T.g_number T.f_number.kp T.b_number (fun σ => passAt (takes_of rfl rfl rfl rfl) σ) (pa_cons (pe_ix (ix_seqK (K := K) rfl) (pv 2) pe_int (fun _ _ => rfl)) pa_nil)))
      (pss_cons (ps_own (ps_set (i := 4) (sc_read).nd rfl (by first | exact Or.inl rfl | exact Or.inr rfl) (pe_lst pa_nil)))
      (pss_cons (ps_own (ps_set (i := 5) (sc_read).nd rfl (by first | exact Or.inl rfl | exact Or.inr rfl) (pe_lst pa_nil)))
      (pss_cons (ps_for (passes_of rfl) rfl (pik_list (K := K) rfl (pe_slice (slk_list (K := K) rfl) (pv 1) (po_some pe_int) po_none)) (pg_name (i := 6) (sc_read).nd rfl (by first | exact Or.inl rfl | exact Or.inr rfl))
      (pss_cons (ps_set (i := 7) (sc_read).nd rfl (by first | exact Or.inl rfl | exact Or.inr rfl) (pe_splitK (pv 6) pe_str))
      (pss_cons (ps_if (PW.pt (pw_and (pt_cmpR (ok_ne (K := K) rfl hu) (pe_ix (ix_seqK (K := K) rfl) (pv 7) pe_int (fun _ _ => rfl)) pe_str (nomark _)) (pw_and1 (pt_cmpR (ok_ne (K := K) rfl hu) (pe_ix (ix_seqK (K := K) rfl) (pv 7) pe_int (fun _ _ => rfl)) pe_str (nomark _))))) (pss_one (ps_rsV rfl (takes_of rfl rfl rfl rfl) T.x_BadText T.g_BadText T.k_BadText (raises_own T.s_BadText T.t_BadText) rfl)) pss_nil)
      (pss_cons (ps_expr (pe_bmK (K := K) rfl PySem.F.plainAttrs_list PySem.F.slot_list_append PySem.F.type_list_append mt_append (pv 5) (pa_cons (pe_cmpR (ok_eq (K := K) rfl hu) (pe_ix (ix_seqK (K := K) rfl) (pv 7) pe_int (fun _ _ => rfl)) pe_str (nomark _)) pa_nil)))
      (pss_one (ps_expr (pe_bmK (K := K) rfl PySem.F.plainAttrs_list PySem.F.slot_list_append PySem.F.type_list_append mt_append (pv 4) (pa_cons (pe_lcXK (own := [("word", 8)]) rfl rfl (takes_of rfl rfl rfl rfl) rfl (sc_read).nd (pik_list (K := K) rfl (pe_slice (slk_list (K := K) rfl) (pv 7) (po_some pe_int) po_none)) (blkOk_by (N := ["text", "rows", "first", "doors", "ways", "lamps", "row", "words", "word"]) (sc := defScope st_read) (by decide +kernel)) (fun _ _ _ _ _ _ => (pg_name (i := 8) (sc_read).nd rfl (by first | exact Or.inl rfl | exact Or.inr rfl))) (fun _ _ _ _ _ _ px => (pe_callS (ok_number T) (hr.mono (by decide)) rfl T.g_number T.f_number.kp T.b_number px (pa_cons (pv 8) pa_nil)))) pa_nil))))))))
      (pss_one (ps_ret (pe_callS (ok_made T) (hr.mono (by decide)) rfl T.g_made T.f_made.kp T.b_made (fun σ => passAt (takes_of rfl rfl rfl rfl) σ) (pa_cons (pv 3) (pa_cons (pv 4) (pa_cons (pv 5) pa_nil))))))))))))), ?_⟩
  refine enterX h fun B ds r hT hR hX => ?_
  clear hr hu hu1 hu2 h
  obtain @⟨text, h0⟩ := hR
  walk_at "start"
  obtain ⟨hc, hl⟩ := h0
  have e1 : (Str.ofString "\n").length = 1 := by decide +kernel
  have e2 : (Str.ofString " ").length = 1 := by decide +kernel
  have bad : ¬ ReadOk text → (if ReadOk text then Except.ok (dHouse T.c_House (dT text) (wT text) (lT text)) else Except.error T.c_BadText) = Except.error T.c_BadText := fun n => if_neg n
  have hRl := rows_few (t := text)
  have hRi : ∀ r ∈ Txt.split text (Str.ofString "\n"), (TL.tl r).Sublist (TL.tl text) := fun r hr => rows_in hr
  have hRd : ReadOk text ↔ headQ (gt (Txt.split text (Str.ofString "\n")) 0) ≠ none ∧ (∀ r ∈ (Txt.split text (Str.ofString "\n")).drop 1, rowOk r) ∧ HouseOk (dT text) (wT text) (lT text) := Iff.rfl
  have hdT : dT text = (headQ (gt (Txt.split text (Str.ofString "\n")) 0)).getD 0 := rfl
  have hwT : wT text = ((Txt.split text (Str.ofString "\n")).drop 1).map wRow := rfl
  have hlT : lT text = ((Txt.split text (Str.ofString "\n")).drop 1).map lRow := rfl
  walk_at "go"
  generalize Txt.split text (Str.ofString "\n") = rows at *
  have hm0 := gt_mem (l := rows) (i := 0) (by omega) (by omega)
  have hF := sub_len (hRi _ hm0)
  have hFl := words_few (t := gt rows 0)
  have hFi : ∀ r ∈ Txt.split (gt rows 0) (Str.ofString " "), (TL.tl r).Sublist (TL.tl (gt rows 0)) := fun r hr => words_in hr
  have hFc : ∀ r ∈ Txt.split (gt rows 0) (Str.ofString " "), ∀ c ∈ TL.tl r, c < 1000 := fun r hr c hc2 => hc c ((hRi _ hm0).mem ((hFi r hr).mem hc2))
  walk_at "go"
  refine br_i (fun h2 => ?_) fun h2 => ?_
  · walk_at "go"
    exact bad fun z => (hRd.mp z).1 (headQ_not (by omega))
  obtain ⟨a, b, hab⟩ : ∃ a b, Txt.split (gt rows 0) (Str.ofString " ") = [a, b] := by
    match hq : Txt.split (gt rows 0) (Str.ofString " "), h2 with
    | [a, b], _ => exact ⟨a, b, rfl⟩
    | [], h2 => simp at h2
    | [_], h2 => simp at h2
    | _ :: _ :: _ :: _, h2 => simp at h2; omega
  have hqd := headQ_two hab
  rw [hab] at hFc hFi ⊢
  have oka := ok_of (hFc a (by simp))
  have hbc := hFc b (by simp)
  have hbl : b.length ≤ 1000000 := by have := sub_len (hFi b (by simp)); omega
  have hca : PyData.strOk (Str.ofString "doors") = true := by decide +kernel
  rw [show List.map Dt.str [a, b] = [Dt.str a, Dt.str b] from rfl]
  walk_at "go"
  refine br_i (fun h3 => ?_) fun h3 => ?_
  · walk_at "go"
    exact bad fun z => (hRd.mp z).1 (by rw [hqd, if_neg h3])
  have h3 : a = Str.ofString "doors" := Classical.byContradiction h3
  rw [if_pos h3] at hqd
  walk_at "go"
  cases hd : numQ b with
  | none =>
    show ResX (.error T.c_BadText) _ _
    walk_at "go"
    exact bad fun z => (hRd.mp z).1 (by rw [hqd, hd])
  | some d =>
    show ResX (.ok (Dt.int d)) _ _
    have hdT2 : dT text = d := by rw [hdT, hqd, hd]; rfl
    have hd1 := (numQ_some hd).1
    walk_at "go"
    intro w hw
    walk_at "go"
    intro l hl2
    walk_at "go"
    rw [show Int.toNat 1 = 1 from rfl]
    refine forD_i (fun i s M => ∃ x6 x7 x8, s = [some (.str text), some (.lst (rows.map Dt.str)), some (.lst [.str a, .str b]), some (.int d), some (.ref w), some (.ref l), x6, x7, x8] ∧
      M = [.one l (.lst ((((rows.drop 1).take i).map lRow).map Dt.bl)), .one w (.lst ((((rows.drop 1).take i).map wRow).map dInts))] ∧ ∀ r ∈ (rows.drop 1).take i, rowOk r) ⟨_, _, _, rfl, rfl, by simp⟩ (fun i r s M ha hI => ?_) fun s M hI => ?_
    · obtain ⟨x6, x7, x8, rfl, rfl, hok⟩ := hI
      have hil := (List.getElem?_eq_some_iff.mp ha).1
      have hrm : r ∈ rows.drop 1 := List.mem_of_getElem? ha
      have hrr : r ∈ rows := List.mem_of_mem_drop hrm
      have hrl := sub_len (hRi r hrr)
      have hwl := words_few (t := r)
      have hwc : ∀ q ∈ Txt.split r (Str.ofString " "), (∀ c ∈ TL.tl q, c < 1000) ∧ q.length ≤ 1000000 := fun q hq => by
        have h5 := words_in hq
        have h6 := sub_len h5
        exact ⟨fun c hc2 => hc c ((hRi r hrr).mem (h5.mem hc2)), by omega⟩
      have hbr : ¬ rowOk r → ¬ ReadOk text := fun n z => n ((hRd.mp z).2.1 r hrm)
      have hro : rowOk r ↔ (gt (Txt.split r (Str.ofString " ")) 0 = Str.ofString "lit" ∨ gt (Txt.split r (Str.ofString " ")) 0 = Str.ofString "dark") ∧ ∀ q ∈ (Txt.split r (Str.ofString " ")).drop 1, numQ q ≠ none := Iff.rfl
      have hlr : lRow r = decide (gt (Txt.split r (Str.ofString " ")) 0 = Str.ofString "lit") := rfl
      have hwr : wRow r = ((Txt.split r (Str.ofString " ")).drop 1).map numD := rfl
      have hll1 : (((rows.drop 1).take i).map lRow).length ≤ 1000001 := by rw [List.length_map, List.length_take, List.length_drop]; omega
      have hll2 : (((rows.drop 1).take i).map wRow).length ≤ 1000001 := by rw [List.length_map, List.length_take, List.length_drop]; omega
      rw [take_snoc ha, List.map_append, List.map_append, List.map_cons, List.map_cons, List.map_nil, List.map_nil]
      walk_at "go"
      generalize Txt.split r (Str.ofString " ") = ws at *
      have hw0 := gt_mem (l := ws) (i := 0) (by omega) (by omega)
      have okw := ok_of (hwc _ hw0).1
      have okl : PyData.strOk (Str.ofString "lit") = true := by decide +kernel
      have okd : PyData.strOk (Str.ofString "dark") = true := by decide +kernel
      walk_at "go"
      refine br_i (fun h5 => ?_) fun h5 => ?_
      · walk_at "go"
        refine br_i (fun h6 => ?_) fun h6 => ?_
        · walk_at "go"
          exact bad (hbr fun z => (hro.mp z).1.elim h5 h6)
        · have h6 : gt ws 0 = Str.ofString "dark" := Classical.byContradiction h6
          walk_at "go"
          refine lcX_lst (fun x y e => by cases e; rfl) (fun q => Dt.int (numD q)) (fun q => numQ q ≠ none) (by decide) (by rw [List.length_drop]; omega) (fun q p acc hq hp => ?_) fun hall => ?_
          · have hq1 : q ∈ ws.drop 1 := hq
            have hq2 : q ∈ ws := List.mem_of_mem_drop hq1
            obtain ⟨hq3, hq4⟩ := hwc q hq2
            walk_at "go"
            cases e : numQ q with
            | none =>
              show ResX (.error T.c_BadText) _ _
              walk_at "go"
              exact bad (hbr fun z => (hro.mp z).2 q hq1 e)
            | some x =>
              show ResX (.ok (Dt.int x)) _ _
              walk_at "go"
              exact ⟨rfl, by unfold numD; rw [e]; rfl, by simp⟩
          walk_at "go"
          refine ⟨_, _, _, rfl, ?_, fun z hz => ?_⟩
          · rw [hlr, List.map_append, List.map_cons, List.map_nil, hwr, List.map_append, row_dints]; rfl
          · rcases List.mem_append.mp hz with q | q
            · exact hok z q
            · rw [List.mem_singleton.mp q]; exact hro.mpr ⟨.inr h6, hall⟩
      · have h5 : gt ws 0 = Str.ofString "lit" := Classical.byContradiction h5
        walk_at "go"
        refine lcX_lst (fun x y e => by cases e; rfl) (fun q => Dt.int (numD q)) (fun q => numQ q ≠ none) (by decide) (by rw [List.length_drop]; omega) (fun q p acc hq hp => ?_) fun hall => ?_
        · have hq1 : q ∈ ws.drop 1 := hq
          have hq2 : q ∈ ws := List.mem_of_mem_drop hq1
          obtain ⟨hq3, hq4⟩ := hwc q hq2
          walk_at "go"
          cases e : numQ q with
          | none =>
            show ResX (.error T.c_BadText) _ _
            walk_at "go"
            exact bad (hbr fun z => (hro.mp z).2 q hq1 e)
          | some x =>
            show ResX (.ok (Dt.int x)) _ _
            walk_at "go"
            exact ⟨rfl, by unfold numD; rw [e]; rfl, by simp⟩
        walk_at "go"
        refine ⟨_, _, _, rfl, ?_, fun z hz => ?_⟩
        · rw [hlr, List.map_append, List.map_cons, List.map_nil, hwr, List.map_append, row_dints]; rfl
        · rcases List.mem_append.mp hz with q | q
          · exact hok z q
          · rw [List.mem_singleton.mp q]; exact hro.mpr ⟨.inl h5, hall⟩
    · obtain ⟨x6, x7, x8, rfl, rfl, hok⟩ := hI
      rw [List.take_length] at hok ⊢
      refine w_frzL 5 rfl hl2 (w_frzL 4 rfl hw ?_)
      rw [← hwT, ← hlT]
      walk_at "go"
      refine br_i (fun hk => ?_) fun hk => ?_
      · walk_at "go"
        rw [if_pos (hRd.mpr ⟨by rw [hqd, hd]; simp, hok, by rw [hdT2]; exact hk⟩), hdT2]
      · walk_at "go"
        exact bad fun z => hk (by rw [← hdT2]; exact z.2.2)
theorem ok__law_stands_under (T : Txt K mg) : FnE P w K mg base (L2.CX P w) 1 T.a__law_stands_under T.fd__law_stands_under ["e"] (fun a c => spG K 1 (fnV (R_law_stands_under K T.c_HouseError a c))) := by
  refine Ask.Fun.okE T.f__law_stands_under sc__law_stands_under (fun a c vs H Q E h => sp_len h) (fun cdv A outer s H vs Q E p c hz hf hr h => ?_)
  have hp : (p.1, p.2) ∈ [p] := List.mem_singleton.mpr rfl
  refine ⟨_, (pss_one (ps_ret (pe_and (pe_callB (call_isX (K := K) (a := p.1) (oe := p.2) rfl hp hz hf) (by rfl) T.n_isinstance (by decide +kernel) (pa_cons (pv 0) (pa_cons (pe_glob (v := .ref T.c_HouseError) rfl T.g_HouseError rfl) pa_nil))) (pe_one (pe_callB (call_isX (K := K) (a := p.1) (oe := p.2) rfl hp hz hf) (by rfl) T.n_isinstance (by decide +kernel) (pa_cons (pv 0) (pa_cons (pe_bltn (v := .ty "ValueError") rfl T.n_ValueError (by decide +kernel) rfl) pa_nil))))))), ?_⟩
  refine enterV h fun B ds d hT hR hX => ?_
  clear hr h
  generalize p.1 = a at hR
  obtain ⟨h1, h2, h3⟩ := hR
  walk_at "start"
  walk_at "go"
  rfl
theorem ok__law_refused (T : Txt K mg) : FnOk P w K mg base (L2.CX P w) 6 T.a__law_refused T.fd__law_refused ["text"] (spG K 1 (fnV (R_law_refused))) := by
  refine T.f__law_refused.okX sc__law_refused (fun vs H Q E h => sp_len h) (fun cdv A outer s H vs Q E hr h => ?_)
  have hu := hr.units
  have hu1 := hu_of hr
  have hu2 := units65 hr
  refine ⟨_, (pss_cons (ps_set (i := 1) (sc__law_refused).nd rfl (by first | exact Or.inl rfl | exact Or.inr rfl) pe_str)
      (pss_cons (ps_set (i := 2) (sc__law_refused).nd rfl (by first | exact Or.inl rfl | exact Or.inr rfl) pe_bl)
      (pss_cons (ps_tryAs (K := K) (c := .ref T.c_BadText) (i := 3) rfl rfl rfl (sc__law_refused).nd rfl rfl ⟨rfl, by decide, Or.inl T.g_BadText⟩ (takes_of rfl rfl rfl rfl) (fun W pn xe tk po => (pss_one (ps_expr (pe_callS (ok_read T) (hr.mono (by decide)) rfl T.g_read T.f_read.kp T.b_read (fun σ => passAt tk σ) (pa_cons (pv 0) pa_nil)))))
      (fun a oe cls d pn hz hf => (pss_cons (ps_set (i := 1) (sc__law_refused).nd rfl (by first | exact Or.inl rfl | exact Or.inr rfl) pe_str)
      (pss_one (ps_set (i := 2) (sc__law_refused).nd rfl (by first | exact Or.inl rfl | exact Or.inr rfl) (pe_and (pe_callE (a := a) (ok__law_stands_under T) (roomE hr (by decide)) List.mem_cons_self hz hf rfl T.g__law_stands_under T.f__law_stands_under.kp T.b__law_stands_under (fun σ => passAt takes0 σ) (pa_cons (pv 3) pa_nil)) (pe_one (pe_not (pe_callB (call_isXT (K := K) rfl List.mem_cons_self hz hf) (by rfl) T.n_isinstance (by decide +kernel) (pa_cons (pv 3) (pa_cons (pe_tup (pa_cons (pe_glob (v := .ref T.c_BadHouse) rfl T.g_BadHouse rfl) (pa_cons (pe_glob (v := .ref T.c_BadWord) rfl T.g_BadWord rfl) pa_nil))) pa_nil)))))))))))
      (pss_one (ps_ret (pe_and (pe_cmpR (ok_eq (K := K) rfl hu) (pv 1) pe_str (nomark _)) (pe_one (pv 2)))))))), ?_⟩
  refine enterV h fun B ds d hT hR hX => ?_
  clear hr hu hu1 hu2 h
  obtain @⟨text, h0⟩ := hR
  walk_at "start"
  obtain ⟨hc, hr⟩ := h0
  walk_at "go"
  refine w_tryAs fun B' W hT' hX' => ?_
  walk_at "go"
  intro a
  walk_at "go"
  rfl
theorem ok__law_odd_number (T : Txt K mg) : FnOk P w K mg base (L2.CX P w) 1 T.a__law_odd_number T.fd__law_odd_number ["cell", "figures", "rooms"] (spG K 3 (fnV (R_law_odd_number))) := by
  refine T.f__law_odd_number.okX sc__law_odd_number (fun vs H Q E h => sp_len h) (fun cdv A outer s H vs Q E hr h => ?_)
  have hu := hr.units
  have hu1 := hu_of hr
  have hu2 := units65 hr
  refine ⟨_, (pss_cons (ps_set (i := 3) (sc__law_odd_number).nd rfl (by first | exact Or.inl rfl | exact Or.inr rfl) (pe_lst (pa_cons (pe_op o_plus pe_str (pv 1)) (pa_cons pe_str (pa_cons (pe_op o_plus pe_str (pv 1)) (pa_cons pe_str (pa_cons (pe_op o_plus (pv 1) pe_str) (pa_cons pe_str (pa_cons pe_str (pa_cons (pe_callTy ck_str (by rfl) T.n_str (by decide +kernel) (pa_cons (pv 2) pa_nil)) (pa_cons pe_str (pa_cons pe_str pa_nil))))))))))))
      (pss_cons (ps_set (i := 3) (sc__law_odd_number).nd rfl (by first | exact Or.inl rfl | exact Or.inr rfl) (pe_op o_plus (pv 3) (pe_lst (pa_cons (pe_op o_plus (pe_op o_plus (pv 1) pe_str) (pv 1)) (pa_cons (pe_op o_rep pe_str (pe_op o_plus pe_int (pe_op o_mod (pe_op o_div (pv 0) pe_int) pe_int))) (pa_cons pe_str (pa_cons pe_str pa_nil)))))))
      (pss_one (ps_ret (pe_ix (ix_seqK (K := K) rfl) (pv 3) (pe_op o_mod (pv 0) pe_int) (fun _ _ => rfl)))))), ?_⟩
  refine enterV h fun B ds d hT hR hX => ?_
  clear hr hu hu1 hu2 h
  obtain @⟨cell, rooms, figures, h0⟩ := hR
  walk_at "start"
  obtain ⟨h1, h2, h3⟩ := h0
  have h5 := mod_in (x := cell) (m := 14) (by omega)
  have e1 : (Str.ofString "0").length = 1 := by decide +kernel
  have e2 : (Str.ofString "+").length = 1 := by decide +kernel
  have e3 : (Str.ofString "a").length = 1 := by decide +kernel
  have e4 : (Str.ofString ".").length = 1 := by decide +kernel
  have e5 : (Str.ofString "9").length = 1 := by decide +kernel
  have e6 : (figures ++ Str.ofString ".").length = figures.length + 1 := by rw [len_str, TL.tl_append, List.length_append, ← len_str, ← len_str, e4]
  walk_at "go"
  have hl : (oddL figures cell rooms).length = 14 := rfl
  change Ix ((oddL figures cell rooms).map Dt.str) _ _
  walk_at "go"
  rfl
theorem ok__law_truths (T : Txt K mg) : FnOk P w K mg base (L2.CX P w) 1 T.a__law_truths T.fd__law_truths ["found", "due"] (spG K 2 (fnV (R_law_truths))) := by
  refine T.f__law_truths.okX sc__law_truths (fun vs H Q E h => sp_len h) (fun cdv A outer s H vs Q E hr h => ?_)
  have hu := hr.units
  have hu1 := hu_of hr
  have hu2 := units65 hr
  refine ⟨_, (pss_cons (ps_if (PW.pt (pw_or (pt_not (pt_val (pe_callB (ck_isi (K := K) rfl) (by rfl) T.n_isinstance (by decide +kernel) (pa_cons (pv 0) (pa_cons (pe_bltn (v := .ty "list") rfl T.n_list (by decide +kernel) rfl) pa_nil))))) (pw_or1 (pt_cmpR (ok_ne (K := K) rfl hu) (pe_callB (ck_len (K := K) rfl) (by rfl) T.n_len (by decide +kernel) (pa_cons (pv 0) pa_nil)) (pe_callB (ck_len (K := K) rfl) (by rfl) T.n_len (by decide +kernel) (pa_cons (pv 1) pa_nil)) (nomark _))))) (pss_one (ps_ret pe_bl)) pss_nil)
      (pss_cons (ps_for (passes_of rfl) rfl (pik_list (K := K) rfl (pv 0)) (pg_name (i := 2) (sc__law_truths).nd rfl (by first | exact Or.inl rfl | exact Or.inr rfl))
      (pss_one (ps_if (pt_not (pt_val (pe_callB (ck_isi (K := K) rfl) (by rfl) T.n_isinstance (by decide +kernel) (pa_cons (pv 2) (pa_cons (pe_bltn (v := .ty "bool") rfl T.n_bool (by decide +kernel) rfl) pa_nil))))) (pss_one (ps_ret pe_bl)) pss_nil)))
      (pss_one (ps_ret (pe_cmpR (ok_eq (K := K) rfl hu) (pv 0) (pv 1) (nomark _)))))), ?_⟩
  refine enterV h fun B ds d hT hR hX => ?_
  clear hr hu hu1 hu2 h
  obtain @⟨l, h0⟩ := hR
  walk_at "start"
  walk_at "go"
  refine forD_i (fun i s M => ∃ d, s = [some (dBls l), some (dBls l), d] ∧ M = []) ⟨none, rfl, rfl⟩ (fun i d s' M' hd hI => ?_) fun s' M' hI => ?_
  · obtain ⟨d', rfl, rfl⟩ := hI
    walk_at "go"
    exact ⟨_, rfl, rfl⟩
  · obtain ⟨d', rfl, rfl⟩ := hI
    walk_at "go"
    simp
theorem ok__law_whole (T : Txt K mg) : FnOk P w K mg base (L2.CX P w) 1 T.a__law_whole T.fd__law_whole ["found"] (spG K 1 (fnV (R_law_whole))) := by
  refine T.f__law_whole.okX sc__law_whole (fun vs H Q E h => sp_len h) (fun cdv A outer s H vs Q E hr h => ?_)
  have hu := hr.units
  have hu1 := hu_of hr
  have hu2 := units65 hr
  refine ⟨_, (pss_one (ps_ret (pe_and (pe_callB (ck_isi (K := K) rfl) (by rfl) T.n_isinstance (by decide +kernel) (pa_cons (pv 0) (pa_cons (pe_bltn (v := .ty "int") rfl T.n_int (by decide +kernel) rfl) pa_nil))) (pe_one (pe_not (pe_callB (ck_isi (K := K) rfl) (by rfl) T.n_isinstance (by decide +kernel) (pa_cons (pv 0) (pa_cons (pe_bltn (v := .ty "bool") rfl T.n_bool (by decide +kernel) rfl) pa_nil)))))))), ?_⟩
  refine enterV h fun B ds d hT hR hX => ?_
  clear hr hu hu1 hu2 h
  obtain @⟨i, h0⟩ := hR
  walk_at "start"
  walk_at "go"
  rfl
theorem ok__law_numbers (T : Txt K mg) : FnOk P w K mg base (L2.CX P w) 2 T.a__law_numbers T.fd__law_numbers ["found", "due"] (spG K 2 (fnV (R_law_numbers))) := by
  refine T.f__law_numbers.okX sc__law_numbers (fun vs H Q E h => sp_len h) (fun cdv A outer s H vs Q E hr h => ?_)
  have hu := hr.units
  have hu1 := hu_of hr
  have hu2 := units65 hr
  refine ⟨_, (pss_cons (ps_if (PW.pt (pw_or (pt_not (pt_val (pe_callB (ck_isi (K := K) rfl) (by rfl) T.n_isinstance (by decide +kernel) (pa_cons (pv 0) (pa_cons (pe_bltn (v := .ty "list") rfl T.n_list (by decide +kernel) rfl) pa_nil))))) (pw_or1 (pt_cmpR (ok_ne (K := K) rfl hu) (pe_callB (ck_len (K := K) rfl) (by rfl) T.n_len (by decide +kernel) (pa_cons (pv 0) pa_nil)) (pe_callB (ck_len (K := K) rfl) (by rfl) T.n_len (by decide +kernel) (pa_cons (pv 1) pa_nil)) (nomark _))))) (pss_one (ps_ret pe_bl)) pss_nil)
      (pss_cons (ps_for (passes_of rfl) rfl (pik_list (K := K) rfl (pv 0)) (pg_name (i := 2) (sc__law_numbers).nd rfl (by first | exact Or.inl rfl | exact Or.inr rfl))
      (pss_one (ps_if (pt_not (pt_val (pe_callS (ok__law_whole T) (hr.mono (by decide)) rfl T.g__law_whole T.f__law_whole.kp T.b__law_whole (fun σ => passAt (takes_of rfl rfl rfl rfl) σ) (pa_cons (pv 2) pa_nil)))) (pss_one (ps_ret pe_bl)) pss_nil)))
      (pss_one (ps_ret (pe_cmpR (ok_eq (K := K) rfl hu) (pv 0) (pv 1) (nomark _)))))), ?_⟩
  refine enterV h fun B ds d hT hR hX => ?_
  clear hr hu hu1 hu2 h
  obtain @⟨l, h0⟩ := hR
  walk_at "start"
  walk_at "go"
  refine forD_i (fun i s M => ∃ d, s = [some (dInts l), some (dInts l), d] ∧ M = []) ⟨none, rfl, rfl⟩ (fun i d s' M' hd hI => ?_) fun s' M' hI => ?_
  · obtain ⟨d', rfl, rfl⟩ := hI
    walk_at "go"
    exact ⟨_, rfl, rfl⟩
  · obtain ⟨d', rfl, rfl⟩ := hI
    walk_at "go"
    simp
theorem ok__law_house_is (T : Txt K mg) : FnOk P w K mg base (L2.CX P w) 3 T.a__law_house_is T.fd__law_house_is ["found", "doors", "ways", "lamps"] (spG K 4 (fnV (R_law_house_is T.c_House))) := by
  refine T.f__law_house_is.okX sc__law_house_is (fun vs H Q E h => sp_len h) (fun cdv A outer s H vs Q E hr h => ?_)
  have hu := hr.units
  have hu1 := hu_of hr
  have hu2 := units65 hr
  refine ⟨_, (pss_cons (ps_if (PW.pt (pw_or (pt_not (pt_val (pe_callB (ck_isi (K := K) rfl) (by rfl) T.n_isinstance (by decide +kernel) (pa_cons (pv 0) (pa_cons (pe_glob (v := .ref T.c_House) rfl T.g_House rfl) pa_nil))))) (pw_or (pt_not (pt_val (pe_callS (ok__law_whole T) (hr.mono (by decide)) rfl T.g__law_whole T.f__law_whole.kp T.b__law_whole (fun σ => passAt (takes_of rfl rfl rfl rfl) σ) (pa_cons (pe_fldK (K := K) rfl (pv 0) rfl) pa_nil)))) (pw_or1 (pt_cmpR (ok_ne (K := K) rfl hu) (pe_fldK (K := K) rfl (pv 0) rfl) (pv 1) (nomark _)))))) (pss_one (ps_ret pe_bl)) pss_nil)
      (pss_cons (ps_if (PW.pt (pw_or (pt_not (pt_val (pe_callB (ck_isi (K := K) rfl) (by rfl) T.n_isinstance (by decide +kernel) (pa_cons (pe_fldK (K := K) rfl (pv 0) rfl) (pa_cons (pe_bltn (v := .ty "list") rfl T.n_list (by decide +kernel) rfl) pa_nil))))) (pw_or1 (pt_cmpR (ok_ne (K := K) rfl hu) (pe_callB (ck_len (K := K) rfl) (by rfl) T.n_len (by decide +kernel) (pa_cons (pe_fldK (K := K) rfl (pv 0) rfl) pa_nil)) (pe_callB (ck_len (K := K) rfl) (by rfl) T.n_len (by decide +kernel) (pa_cons (pv 2) pa_nil)) (nomark _))))) (pss_one (ps_ret pe_bl)) pss_nil)
      (pss_cons (ps_for (passes_of rfl) rfl (pi_range1 rfl T.n_range (pa_cons (pe_callB (ck_len (K := K) rfl) (by rfl) T.n_len (by decide +kernel) (pa_cons (pv 2) pa_nil)) pa_nil)) (pg_name (i := 4) (sc__law_house_is).nd rfl (by first | exact Or.inl rfl | exact Or.inr rfl))
      (pss_one (ps_if (pt_not (pt_val (pe_callS (ok__law_numbers T) (hr.mono (by decide)) rfl T.g__law_numbers T.f__law_numbers.kp T.b__law_numbers (fun σ => passAt (takes_of rfl rfl rfl rfl) σ) (pa_cons (pe_ix (ix_seqK (K := K) rfl) (pe_fldK (K := K) rfl (pv 0) rfl) (pv 4) (fun _ _ => rfl)) (pa_cons (pe_ix (ix_seqK (K := K) rfl) (pv 2) (pv 4) (fun _ _ => rfl)) pa_nil))))) (pss_one (ps_ret pe_bl)) pss_nil)))
      (pss_one (ps_ret (pe_callS (ok__law_truths T) (hr.mono (by decide)) rfl T.g__law_truths T.f__law_truths.kp T.b__law_truths (fun σ => passAt (takes_of rfl rfl rfl rfl) σ) (pa_cons (pe_fldK (K := K) rfl (pv 0) rfl) (pa_cons (pv 3) pa_nil)))))))), ?_⟩
  refine enterV h fun B ds d hT hR hX => ?_
  clear hr hu hu1 hu2 h
  obtain @⟨doors, ways, lamps, h0⟩ := hR
  walk_at "start"
  walk_at "go"
  refine forD_r (fun i s M => ∃ d, s = [some (dHouse T.c_House doors ways lamps), some (.int doors), some (dRows ways), some (dBls lamps), d] ∧ M = []) ⟨none, rfl, rfl⟩ (fun i s' M' hi hI => ?_) fun s' M' hI => ?_
  · obtain ⟨d', rfl, rfl⟩ := hI
    walk_at "go"
    exact ⟨_, rfl, rfl⟩
  · obtain ⟨d', rfl, rfl⟩ := hI
    walk_at "go"
    rfl
theorem ok_law (T : Txt K mg) : FnOk P w K mg base (L2.CX P w) 7 T.a_law T.fd_law ["script"] (spG K 1 (fnV RLaw)) := by
  refine T.f_law.okX sc_law (fun vs H Q E h => sp_len h) (fun cdv A outer s H vs Q E hr h => ?_)
  have hu := hr.units
  have hu1 := hu_of hr
  have hu2 := units65 hr
  refine ⟨_, (pss_cons (ps_set (i := 1) (sc_law).nd rfl (by first | exact Or.inl rfl | exact Or.inr rfl) (pe_op o_plus pe_int (pe_op o_mod (pe_callS (ok__law_cell_at T) (hr.mono (by decide)) rfl T.g__law_cell_at T.f__law_cell_at.kp T.b__law_cell_at (fun σ => passAt (takes_of rfl rfl rfl rfl) σ) (pa_cons (pv 0) (pa_cons pe_int pa_nil))) pe_int)))
      (pss_cons (ps_set (i := 2) (sc_law).nd rfl (by first | exact Or.inl rfl | exact Or.inr rfl) (pe_op o_plus pe_int (pe_op o_mod (pe_callS (ok__law_cell_at T) (hr.mono (by decide)) rfl T.g__law_cell_at T.f__law_cell_at.kp T.b__law_cell_at (fun σ => passAt (takes_of rfl rfl rfl rfl) σ) (pa_cons (pv 0) (pa_cons pe_int pa_nil))) pe_int)))
      (pss_cons (ps_set (i := 3) (sc_law).nd rfl (by first | exact Or.inl rfl | exact Or.inr rfl) (pe_callS (ok__law_ways_by T) (hr.mono (by decide)) rfl T.g__law_ways_by T.f__law_ways_by.kp T.b__law_ways_by (fun σ => passAt (takes_of rfl rfl rfl rfl) σ) (pa_cons (pe_callS (ok__law_cell_at T) (hr.mono (by decide)) rfl T.g__law_cell_at T.f__law_cell_at.kp T.b__law_cell_at (fun σ => passAt (takes_of rfl rfl rfl rfl) σ) (pa_cons (pv 0) (pa_cons pe_int pa_nil))) (pa_cons (pv 1) (pa_cons (pv 2) pa_nil)))))
      (pss_cons (ps_set (i := 4) (sc_law).nd rfl (by first | exact Or.inl rfl | exact Or.inr rfl) (pe_callS (ok__law_lamps_by T) (hr.mono (by decide)) rfl T.g__law_lamps_by T.f__law_lamps_by.kp T.b__law_lamps_by (fun σ => passAt (takes_of rfl rfl rfl rfl) σ) (pa_cons (pe_callS (ok__law_cell_at T) (hr.mono (by decide)) rfl T.g__law_cell_at T.f__law_cell_at.kp T.b__law_cell_at (fun σ => passAt (takes_of rfl rfl rfl rfl) σ) (pa_cons (pv 0) (pa_cons pe_int pa_nil))) (pa_cons (pv 2) pa_nil))))
      (pss_cons (ps_own (ps_set (i := 5) (sc_law).nd rfl (by first | exact Or.inl rfl | exact Or.inr rfl) (pe_callS (ok__law_text_of T) (hr.mono (by decide)) rfl T.g__law_text_of T.f__law_text_of.kp T.b__law_text_of (fun σ => passAt (takes_of rfl rfl rfl rfl) σ) (pa_cons (pv 1) (pa_cons (pv 3) (pa_cons (pv 4) pa_nil))))))
      (pss_cons (ps_set (i := 6) (sc_law).nd rfl (by first | exact Or.inl rfl | exact Or.inr rfl) (pe_op o_mod (pe_callS (ok__law_cell_at T) (hr.mono (by decide)) rfl T.g__law_cell_at T.f__law_cell_at.kp T.b__law_cell_at (fun σ => passAt (takes_of rfl rfl rfl rfl) σ) (pa_cons (pv 0) (pa_cons pe_int pa_nil))) pe_int))
      (pss_cons (ps_set (i := 7) (sc_law).nd rfl (by first | exact Or.inl rfl | exact Or.inr rfl) (pe_callS (ok__law_cell_at T) (hr.mono (by decide)) rfl T.g__law_cell_at T.f__law_cell_at.kp T.b__law_cell_at (fun σ => passAt (takes_of rfl rfl rfl rfl) σ) (pa_cons (pv 0) (pa_cons pe_int pa_nil))))
      (pss_cons (ps_set (i := 8) (sc_law).nd rfl (by first | exact Or.inl rfl | exact Or.inr rfl) (pe_op o_plus pe_int (pe_op o_mod (pe_callS (ok__law_cell_at T) (hr.mono (by decide)) rfl T.g__law_cell_at T.f__law_cell_at.kp T.b__law_cell_at (fun σ => passAt (takes_of rfl rfl rfl rfl) σ) (pa_cons (pv 0) (pa_cons pe_int pa_nil))) (pv 2))))
      (pss_cons (ps_set (i := 9) (sc_law).nd rfl (by first | exact Or.inl rfl | exact Or.inr rfl) (pe_op o_plus pe_int (pe_op o_mod (pe_callS (ok__law_cell_at T) (hr.mono (by decide)) rfl T.g__law_cell_at T.f__law_cell_at.kp T.b__law_cell_at (fun σ => passAt (takes_of rfl rfl rfl rfl) σ) (pa_cons (pv 0) (pa_cons pe_int pa_nil))) (pv 1))))
      (pss_cons (ps_if (PW.pt (pw_or (pt_cmpR (ok_eq (K := K) rfl hu) (pv 6) pe_int (nomark _)) (pw_or1 (pt_cmpR (ok_eq (K := K) rfl hu) (pv 6) pe_int (nomark _))))) (pss_one (ps_asg (pe_callS (ok__law_odd_number T) (hr.mono (by decide)) rfl T.g__law_odd_number T.f__law_odd_number.kp T.b__law_odd_number (fun σ => passAt (takes_of rfl rfl rfl rfl) σ) (pa_cons (pv 7) (pa_cons (pe_ix (ix_seqK (K := K) rfl) (pe_ix (ix_seqK (K := K) rfl) (pv 5) (pv 8) (fun _ _ => rfl)) (pv 9) (fun _ _ => rfl)) (pa_cons (pv 2) pa_nil)))) (pg_sub (pe_ix (ix_seqK (K := K) rfl) (pv 5) (pv 8) (fun _ _ => rfl)) (pv 9) set_list))) pss_nil)
      (pss_cons (ps_if (pt_cmpR (ok_eq (K := K) rfl hu) (pv 6) pe_int (nomark _)) (pss_one (ps_expr (pe_bmK (K := K) rfl PySem.F.plainAttrs_list PySem.F.slot_list_append PySem.F.type_list_append mt_append (pe_ix (ix_seqK (K := K) rfl) (pv 5) (pv 8) (fun _ _ => rfl)) (pa_cons (pe_callTy ck_str (by rfl) T.n_str (by decide +kernel) (pa_cons (pe_op o_mod (pv 7) (pv 2)) pa_nil)) pa_nil)))) pss_nil)
      (pss_cons (ps_if (pt_cmpR (ok_eq (K := K) rfl hu) (pv 6) pe_int (nomark _)) (pss_one (ps_expr (pe_bm0K (K := K) rfl PySem.F.plainAttrs_list PySem.F.slot_list_pop PySem.F.type_list_pop mt_pop (pe_ix (ix_seqK (K := K) rfl) (pv 5) (pv 8) (fun _ _ => rfl))))) pss_nil)
      (pss_cons (ps_if (pt_cmpR (ok_eq (K := K) rfl hu) (pv 6) pe_int (nomark _)) (pss_one (ps_asg (pe_ix (ix_seqK (K := K) rfl) (pe_lst (pa_cons pe_str (pa_cons pe_str (pa_cons pe_str (pa_cons pe_str (pa_cons pe_str (pa_cons pe_str (pa_cons pe_str (pa_cons pe_str pa_nil))))))))) (pe_op o_mod (pv 7) pe_int) (fun _ _ => rfl)) (pg_sub (pe_ix (ix_seqK (K := K) rfl) (pv 5) (pv 8) (fun _ _ => rfl)) pe_int set_list))) pss_nil)
      (pss_cons (ps_set (i := 10) (sc_law).nd rfl (by first | exact Or.inl rfl | exact Or.inr rfl) (pe_joinK (K := K) rfl pe_str (pe_lc (own := [("row", 13)]) rfl (sc_law).nd (pik_list (K := K) rfl (pv 5)) (blkOk_by (N := ["script", "doors", "rooms", "ways", "lamps", "rows", "way", "cell", "at", "door", "text", "place", "some", "row"]) (sc := defScope st_law) (by decide +kernel)) (fun _ _ _ _ _ => (pg_name (i := 13) (sc_law).nd rfl (by first | exact Or.inl rfl | exact Or.inr rfl))) (fun _ _ _ _ _ => pts_nil) (fun _ _ _ _ _ => (pe_joinK (K := K) rfl pe_str (pv 13))))))
      (pss_cons (ps_if (pt_cmpR (ok_eq (K := K) rfl hu) (pv 6) pe_int (nomark _)) (pss_cons (ps_set (i := 11) (sc_law).nd rfl (by first | exact Or.inl rfl | exact Or.inr rfl) (pe_op o_mod (pe_callS (ok__law_cell_at T) (hr.mono (by decide)) rfl T.g__law_cell_at T.f__law_cell_at.kp T.b__law_cell_at (fun σ => passAt (takes_of rfl rfl rfl rfl) σ) (pa_cons (pv 0) (pa_cons pe_int pa_nil))) (pe_op o_plus (pe_callB (ck_len (K := K) rfl) (by rfl) T.n_len (by decide +kernel) (pa_cons (pv 10) pa_nil)) pe_int)))
      (pss_one (ps_set (i := 10) (sc_law).nd rfl (by first | exact Or.inl rfl | exact Or.inr rfl) (pe_op o_plus (pe_op o_plus (pe_slice sl_str (pv 10) po_none (po_some (pv 11))) (pe_ix (ix_seqK (K := K) rfl) (pe_lst (pa_cons pe_str (pa_cons pe_str pa_nil))) (pe_op o_mod (pv 7) pe_int) (fun _ _ => rfl))) (pe_slice sl_str (pv 10) (po_some (pv 11)) po_none))))) pss_nil)
      (pss_cons (ps_if (pt_cmpR (ok_eq (K := K) rfl hu) (pv 6) pe_int (nomark _)) (pss_cons (ps_set (i := 12) (sc_law).nd rfl (by first | exact Or.inl rfl | exact Or.inr rfl) (pe_lst (pa_cons pe_str (pa_cons pe_str (pa_cons pe_str (pa_cons pe_str (pa_cons pe_str (pa_cons pe_str (pa_cons pe_str (pa_cons pe_str (pa_cons pe_str pa_nil)))))))))))
      (pss_cons (ps_set (i := 12) (sc_law).nd rfl (by first | exact Or.inl rfl | exact Or.inr rfl) (pe_op o_plus (pv 12) (pe_lst (pa_cons pe_str (pa_cons pe_str (pa_cons pe_str (pa_cons pe_str (pa_cons pe_str pa_nil))))))))
      (pss_cons (ps_asg (pe_own (pe_lst (pa_cons (pe_ix (ix_seqK (K := K) rfl) (pv 12) (pe_op o_mod (pv 7) pe_int) (fun _ _ => rfl)) pa_nil))) (pg_sub (pv 5) pe_int set_list))
      (pss_one (ps_set (i := 10) (sc_law).nd rfl (by first | exact Or.inl rfl | exact Or.inr rfl) (pe_joinK (K := K) rfl pe_str (pe_lc (own := [("row", 13)]) rfl (sc_law).nd (pik_list (K := K) rfl (pv 5)) (blkOk_by (N := ["script", "doors", "rooms", "ways", "lamps", "rows", "way", "cell", "at", "door", "text", "place", "some", "row"]) (sc := defScope st_law) (by decide +kernel)) (fun _ _ _ _ _ => (pg_name (i := 13) (sc_law).nd rfl (by first | exact Or.inl rfl | exact Or.inr rfl))) (fun _ _ _ _ _ => pts_nil) (fun _ _ _ _ _ => (pe_joinK (K := K) rfl pe_str (pv 13)))))))))) pss_nil)
      (pss_cons (ps_if (pt_cmpR (ok_eq (K := K) rfl hu) (pv 6) pe_int (nomark _)) (pss_one (ps_set (i := 10) (sc_law).nd rfl (by first | exact Or.inl rfl | exact Or.inr rfl) (pe_op o_plus pe_str (pe_callTy ck_str (by rfl) T.n_str (by decide +kernel) (pa_cons (pv 1) pa_nil))))) pss_nil)
      (pss_cons (ps_if (pt_cmpR (ok_eq (K := K) rfl hu) (pv 6) pe_int (nomark _)) (pss_one (ps_ret (pe_callS (ok__law_house_is T) (hr.mono (by decide)) rfl T.g__law_house_is T.f__law_house_is.kp T.b__law_house_is (fun σ => passAt (takes_of rfl rfl rfl rfl) σ) (pa_cons (pe_callS (ok_read T) (hr.mono (by decide)) rfl T.g_read T.f_read.kp T.b_read (fun σ => passAt (takes_of rfl rfl rfl rfl) σ) (pa_cons (pv 10) pa_nil)) (pa_cons (pv 1) (pa_cons (pv 3) (pa_cons (pv 4) pa_nil))))))) pss_nil)
      (pss_one (ps_ret (pe_callS (ok__law_refused T) (hr.mono (by decide)) rfl T.g__law_refused T.f__law_refused.kp T.b__law_refused (fun σ => passAt (takes_of rfl rfl rfl rfl) σ) (pa_cons (pv 10) pa_nil)))))))))))))))))))))), ?_⟩
  refine enterV h fun B ds d hT hR hX => ?_
  clear hr hu hu1 hu2 h
  obtain @⟨ns, h0⟩ := hR
  walk_at "start"
  have hnT : ∀ a : Addr, a ∉ B.T := fun a => by rw [hT]; simp
  refine w_cut 12 (fun s M => ∃ (doors rooms : Int) (ways : List (List Int)) (lamps : List Bool) (cell at' door : Int) (p : Addr) (ps : List Addr) (Ws : List (List Str)), HouseOk doors ways lamps ∧ (ways.length : Int) = rooms ∧ rooms ≤ 15 ∧ ps.length = Ws.length ∧
    ((1 ≤ cellAt ns 4 % 9 ∧ cellAt ns 4 % 9 ≤ 5 ∧ Turned doors ways lamps Ws) ∨ ((cellAt ns 4 % 9 = 0 ∨ 6 ≤ cellAt ns 4 % 9) ∧ Ws = wordsH doors ways lamps)) ∧
    s = [some (.scr ns), some (.int doors), some (.int rooms), some (dRows ways), some (dBls lamps), some (.ref p), some (.int (cellAt ns 4 % 9)), some (.int cell), some (.int at'), some (.int door), none, none, none, none] ∧ M = [.one p (.lst (refs ps)), .many ps (strRows Ws)]) ?_ ?_
  · have hd1 : 1 ≤ 1 + cellAt ns 0 % 6 := by omega
    have hd2 : 1 + cellAt ns 0 % 6 ≤ 6 := by omega
    have hr1 : 1 ≤ 1 + cellAt ns 1 % 15 := by omega
    have hr2 : 1 + cellAt ns 1 % 15 ≤ 15 := by omega
    have hwl : (((waysBy (cellAt ns 2) (1 + cellAt ns 0 % 6) (1 + cellAt ns 1 % 15)).length : Nat) : Int) = 1 + cellAt ns 1 % 15 := by rw [waysBy_length]; omega
    walk_at "go"
    generalize 1 + cellAt ns 0 % 6 = doors at *
    generalize 1 + cellAt ns 1 % 15 = rooms at *
    have hk : HouseOk doors (waysBy (cellAt ns 2) doors rooms) (lampsBy (cellAt ns 3) rooms) := houseBy_ok hd1 (by omega) hr1 (by omega)
    generalize waysBy (cellAt ns 2) doors rooms = ways at *
    generalize lampsBy (cellAt ns 3) rooms = lamps at *
    walk_at "go"
    intro p ps hp hps hpl
    rw [show (strRows (wordsH doors ways lamps)).length = ways.length + 1 by simp [strRows, wordsH]] at hpl
    have hWl : (wordsH doors ways lamps).length = ways.length + 1 := by simp [wordsH]
    have hat := mod_in (x := cellAt ns 6) (m := rooms) (by omega)
    have hdo := mod_in (x := cellAt ns 7) (m := doors) (by omega)
    have hat2 : 1 ≤ 1 + cellAt ns 6 % rooms ∧ 1 + cellAt ns 6 % rooms ≤ (ways.length : Int) := by omega
    have hdo2 : 1 ≤ 1 + cellAt ns 7 % doors ∧ 1 + cellAt ns 7 % doors ≤ doors := by omega
    clear hat hdo
    obtain ⟨ra1, ra2⟩ := row_at hk (by omega) hat2
    have hfg := fig_at hk hat2 hdo2
    have t1 := fun cell => turn_odd hk (by omega) hat2 (cell := cell) hdo2
    have t3 := fun w hw => turn_more hk (by omega) hat2 (w := w) hw
    have t4 := turn_less hk (by omega) hat2
    have t5 := fun w hw => turn_lamp hk (by omega) hat2 (lampL_bad w hw).1 (lampL_bad w hw).2
    have hw : cellAt ns 4 % 9 = 0 ∨ (cellAt ns 4 % 9 = 1 ∨ cellAt ns 4 % 9 = 2) ∨ cellAt ns 4 % 9 = 3 ∨ cellAt ns 4 % 9 = 4 ∨ cellAt ns 4 % 9 = 5 ∨ 6 ≤ cellAt ns 4 % 9 := by omega
    haveI : InB ps (1 + cellAt ns 6 % rooms) := ⟨by omega⟩
    haveI : RowAt (strRows (wordsH doors ways lamps)) (1 + cellAt ns 6 % rooms).toNat ((gt (wordsH doors ways lamps) (1 + cellAt ns 6 % rooms)).map Dt.str) := ⟨strRows_at (by omega) (by omega)⟩
    rcases hw with hw | hw | hw | hw | hw | hw
    · walk_at "go"
      exact ⟨doors, rooms, ways, lamps, _, _, _, p, ps, _, hk, hwl, hr2, by omega, .inr ⟨by omega, rfl⟩, rfl, rfl⟩
    · have t1 := t1 (cellAt ns 5)
      rw [hwl] at t1
      rcases hw with hw | hw
      · walk_at "go"
        exact ⟨doors, rooms, ways, lamps, _, _, _, p, ps, _, hk, hwl, hr2, by rw [List.length_set]; omega, .inl ⟨by omega, by omega, t1⟩, rfl, by rw [← strRows_set, List.map_set]⟩
      · walk_at "go"
        exact ⟨doors, rooms, ways, lamps, _, _, _, p, ps, _, hk, hwl, hr2, by rw [List.length_set]; omega, .inl ⟨by omega, by omega, t1⟩, rfl, by rw [← strRows_set, List.map_set]⟩
    · have hcm := mod_in (x := cellAt ns 5) (m := rooms) (by omega)
      have t3 := t3 (numI (cellAt ns 5 % rooms)) ⟨clean_num ⟨by omega, by omega⟩, by have := (len_num (x := cellAt ns 5 % rooms) ⟨by omega, by omega⟩).2; omega⟩
      walk_at "go"
      exact ⟨doors, rooms, ways, lamps, _, _, _, p, ps, _, hk, hwl, hr2, by rw [List.length_set]; omega, .inl ⟨by omega, by omega, t3⟩, rfl, by rw [← strRows_set, List.map_append]; rfl⟩
    · walk_at "go"
      intro d
      walk_at "go"
      exact ⟨doors, rooms, ways, lamps, _, _, _, p, ps, _, hk, hwl, hr2, by rw [List.length_set]; omega, .inl ⟨by omega, by omega, t4⟩, rfl, by rw [← strRows_set, List.map_dropLast]⟩
    · have h8 := mod_in (x := cellAt ns 5) (m := 8) (by omega)
      have hl8 : lampL.length = 8 := rfl
      have t5 := t5 _ (gt_mem (l := lampL) (i := cellAt ns 5 % 8) (by omega) (by omega))
      walk_at "go"
      change Ix (lampL.map Dt.str) _ _
      walk_at "go"
      exact ⟨doors, rooms, ways, lamps, _, _, _, p, ps, _, hk, hwl, hr2, by rw [List.length_set]; omega, .inl ⟨by omega, by omega, t5⟩, rfl, by rw [← strRows_set, List.map_set]; rfl⟩
    · walk_at "go"
      exact ⟨doors, rooms, ways, lamps, _, _, _, p, ps, _, hk, hwl, hr2, by omega, .inr ⟨by omega, rfl⟩, rfl, rfl⟩
  · rintro s M ⟨doors, rooms, ways, lamps, cell, at', door, p, ps, Ws, hk, hwl, hr2, hpl, hW, rfl, rfl⟩
    have hboth : Clean Ws ∧ LenW Ws ∧ Ws ≠ [] := by
      rcases hW with ⟨_, _, k1, k2, k3, _⟩ | ⟨_, rfl⟩
      · exact ⟨k1, k2, fun z => by rw [z] at k3; simp at k3⟩
      · exact ⟨wordsH_clean hk, wordsH_len hk (by omega), by simp [wordsH]⟩
    obtain ⟨kc, kl, kn⟩ := hboth
    have htp := text_pre kl
    have htl := text_len kl
    have htc := codes_text kc
    have hk4 := hk.2.2.2.1
    have hW16 := kl.1
    refine w_cut 0 (fun s M => s = [some (.scr ns), some (.int doors), some (.int rooms), some (dRows ways), some (dBls lamps), some (.ref p), some (.int (cellAt ns 4 % 9)), some (.int cell), some (.int at'), some (.int door), some (.str (textW Ws)), none, none, none] ∧ M = [.one p (.lst (refs ps)), .many ps (strRows Ws)]) ?_ ?_
    · walk_at "go"
      refine lcD_refs (fun i => Dt.str (Txt.join (Str.ofString " ") (gt Ws (i : Int)))) (by decide) (by omega) (fun i q acc hi hq => ?_) ?_
      · haveI : InB ps (i : Int) := ⟨by omega⟩
        haveI : RowAt (strRows Ws) ((i : Int)).toNat ((gt Ws (i : Int)).map Dt.str) := ⟨strRows_at (by omega) (by omega)⟩
        have hrp := row_pre (kl.2 _ (gt_mem (l := Ws) (i := (i : Int)) (by omega) (by omega)))
        walk_at "go"
        exact ⟨rfl, rfl⟩
      rw [join_rows hpl]
      walk_at "go"
      exact ⟨rfl, rfl⟩
    rintro s M ⟨rfl, rfl⟩
    have hd1 := hk.1
    have hd6 := hk.2.1
    rcases hW with ⟨hw1, hw5, _, _, _, hno⟩ | ⟨hw, rfl⟩
    · walk_at "go"
      rfl
    · have hw : cellAt ns 4 % 9 = 0 ∨ cellAt ns 4 % 9 = 6 ∨ cellAt ns 4 % 9 = 7 ∨ cellAt ns 4 % 9 = 8 := by omega
      obtain ⟨r1, r2, r3, r4⟩ := wordsH_read hk
      rcases hw with hw | hw | hw | hw
      · walk_at "go"
        rw [r2, r3, r4]
        walk_at "go"
        rfl
      · have hpl2 := mod_in (x := cellAt ns 8) (m := ((textW (wordsH doors ways lamps)).length : Int) + 1) (by omega)
        have h2 := mod_in (x := cell) (m := 2) (by omega)
        have cut := cut_two (t := textW (wordsH doors ways lamps)) (k := (cellAt ns 8 % ((textW (wordsH doors ways lamps)).length + 1)).toNat) htl htc
        have key := fun c n e hc => bad_more hk (t := mkS (List.take (cellAt ns 8 % ((textW (wordsH doors ways lamps)).length + 1)).toNat (TL.tl (textW (wordsH doors ways lamps)))) ++ c ++ mkS (List.drop (cellAt ns 8 % ((textW (wordsH doors ways lamps)).length + 1)).toNat (TL.tl (textW (wordsH doors ways lamps))))) (a := List.take (cellAt ns 8 % ((textW (wordsH doors ways lamps)).length + 1)).toNat (TL.tl (textW (wordsH doors ways lamps)))) (b := List.drop (cellAt ns 8 % ((textW (wordsH doors ways lamps)).length + 1)).toNat (TL.tl (textW (wordsH doors ways lamps)))) (c := n) (List.take_append_drop _ _).symm (tl_three e) hc
        walk_at "go"
        generalize mkS (List.take (cellAt ns 8 % ((textW (wordsH doors ways lamps)).length + 1)).toNat (TL.tl (textW (wordsH doors ways lamps)))) = A at *
        obtain ⟨l1, l2, l3⟩ := cut
        have hc2 : cell % 2 = 0 ∨ cell % 2 = 1 := by omega
        rcases hc2 with hc2 | hc2
        · have key := key (Str.ofString " ") 32 sp1 (.inl rfl)
          obtain ⟨m1, m2, m3⟩ := l3 (Str.ofString " ") 32 sp1 (by decide)
          have l4 := len_app (a := A) (b := Str.ofString " ")
          rw [hc2]
          walk_at "go"
          rfl
        · have key := key (Str.ofString "\n") 10 nl1 (.inr rfl)
          obtain ⟨m1, m2, m3⟩ := l3 (Str.ofString "\n") 10 nl1 (by decide)
          have l4 := len_app (a := A) (b := Str.ofString "\n")
          rw [hc2]
          walk_at "go"
          rfl
      · have h14 := mod_in (x := cell) (m := 14) (by omega)
        have hl14 : headL.length = 14 := rfl
        obtain ⟨t1, t2, t3⟩ := turn_head hk (by omega) (gt_mem (l := headL) (i := cell % 14) (by omega) (by omega))
        walk_at "go"
        change Ix (headL.map Dt.str) _ _
        walk_at "go"
        intro q hq
        walk_at "s"
        walk_at "s"
        walk_at "s"
        walk_at "s"
        have hp0 : 0 < ps.length := by rw [hpl]; simp [wordsH]
        refine pre_i ⟨by decide, by omega⟩ ?_
        generalize gt headL (cell % 14) = w at t1 t2 t3 ⊢
        rw [show (refs ps).set (Int.toNat 0) (Dt.ref q) = refs (ps.set 0 q) from by rw [refs, refs, List.map_set]; rfl]
        refine w_lay (lay_put1 hp0 fun a _ => hnT a) ?_
        rw [show (strRows (wordsH doors ways lamps)).set 0 [Dt.str w] = strRows ((wordsH doors ways lamps).set 0 [w]) from strRows_set (r := [w])]
        have hpl3 : (ps.set 0 q).length = ((wordsH doors ways lamps).set 0 [w]).length := by rw [List.length_set, List.length_set]; exact hpl
        have htp3 := text_pre t1
        have htl3 := text_len t1
        have hl16 := t1.1
        clear hpl htp htl htc kc kl kn hW16
        generalize (wordsH doors ways lamps).set 0 [w] = W3 at *
        generalize ps.set 0 q = ps3 at *
        walk_at "go"
        refine lcD_refs (fun i => Dt.str (Txt.join (Str.ofString " ") (gt W3 (i : Int)))) (by decide) (by omega) (fun i q acc hi hq => ?_) ?_
        · haveI : InB ps3 (i : Int) := ⟨by omega⟩
          haveI : RowAt (strRows W3) ((i : Int)).toNat ((gt W3 (i : Int)).map Dt.str) := ⟨strRows_at (by omega) (by omega)⟩
          have hrp := row_pre (t1.2 _ (gt_mem (l := W3) (i := (i : Int)) (by omega) (by omega)))
          walk_at "go"
          exact ⟨rfl, rfl⟩
        rw [join_rows hpl3]
        walk_at "go"
        rw [show Txt.join (Str.ofString "\n") (W3.map (Txt.join (Str.ofString " "))) = textW W3 from rfl]
        walk_at "go"
        rfl
      · obtain ⟨t1, t2, t3⟩ := turn_alone (d := doors) ⟨hd1, hd6⟩
        have t1 : ¬ ReadOk (Str.ofString "doors " ++ numI doors) := t1
        have t2 : ∀ c ∈ TL.tl (Str.ofString "doors " ++ numI doors), c < 1000 := t2
        have t3 : (Str.ofString "doors " ++ numI doors).length ≤ 9 := t3
        have t4 := (len_num (x := doors) ⟨by omega, by omega⟩).2
        have t5 : (Str.ofString "doors ").length = 6 := by decide +kernel
        walk_at "go"
        rfl
theorem all_mk {l : PySem.W.OpenLaw} {w : World} {K : PySem.W.Frag} {h : Heap} {mg : Str → Option Value} {fa : Addr} (X : K.In h) (G : h.Ns mainGlobals mg) (hfa : mg "law" = some (.ref fa))
    {C_House : Addr} {C_HouseError : Addr} {C_BadHouse : Addr} {C_BadWord : Addr} {C_BadText : Addr} {A__law_draw : Addr} {od0 an0 : Option Addr} {sl0 : Array (Option Value)} {oc0 kV0 dc0 pm0 cd0 ct0 : Value} {A__law_ways_by : Addr} {od1 an1 : Option Addr} {sl1 : Array (Option Value)} {oc1 kV1 dc1 pm1 cd1 ct1 : Value} {A__law_lamps_by : Addr} {od2 an2 : Option Addr} {sl2 : Array (Option Value)} {oc2 kV2 dc2 pm2 cd2 ct2 : Value} {A__law_text_of : Addr} {od3 an3 : Option Addr} {sl3 : Array (Option Value)} {oc3 kV3 dc3 pm3 cd3 ct3 : Value} {A__law_cell_at : Addr} {od4 an4 : Option Addr} {sl4 : Array (Option Value)} {oc4 kV4 dc4 pm4 cd4 ct4 : Value} {A_number : Addr} {od5 an5 : Option Addr} {sl5 : Array (Option Value)} {oc5 kV5 dc5 pm5 cd5 ct5 : Value} {A_looked_through : Addr} {od6 an6 : Option Addr} {sl6 : Array (Option Value)} {oc6 kV6 dc6 pm6 cd6 ct6 : Value} {A_House_init : Addr} {od7 an7 : Option Addr} {sl7 : Array (Option Value)} {oc7 kV7 dc7 pm7 cd7 ct7 : Value} {A_made : Addr} {od8 an8 : Option Addr} {sl8 : Array (Option Value)} {oc8 kV8 dc8 pm8 cd8 ct8 : Value} {A_read : Addr} {od9 an9 : Option Addr} {sl9 : Array (Option Value)} {oc9 kV9 dc9 pm9 cd9 ct9 : Value} {A__law_stands_under : Addr} {od10 an10 : Option Addr} {sl10 : Array (Option Value)} {oc10 kV10 dc10 pm10 cd10 ct10 : Value} {A__law_refused : Addr} {od11 an11 : Option Addr} {sl11 : Array (Option Value)} {oc11 kV11 dc11 pm11 cd11 ct11 : Value} {A__law_odd_number : Addr} {od12 an12 : Option Addr} {sl12 : Array (Option Value)} {oc12 kV12 dc12 pm12 cd12 ct12 : Value} {A__law_truths : Addr} {od13 an13 : Option Addr} {sl13 : Array (Option Value)} {oc13 kV13 dc13 pm13 cd13 ct13 : Value} {A__law_whole : Addr} {od14 an14 : Option Addr} {sl14 : Array (Option Value)} {oc14 kV14 dc14 pm14 cd14 ct14 : Value} {A__law_numbers : Addr} {od15 an15 : Option Addr} {sl15 : Array (Option Value)} {oc15 kV15 dc15 pm15 cd15 ct15 : Value} {A__law_house_is : Addr} {od16 an16 : Option Addr} {sl16 : Array (Option Value)} {oc16 kV16 dc16 pm16 cd16 ct16 : Value} {A_law : Addr} {od17 an17 : Option Addr} {sl17 : Array (Option Value)} {oc17 kV17 dc17 pm17 cd17 ct17 : Value} {tk_MOST_DOORS : Tok} {tk_MOST_ROOMS : Tok} {tk_FIGURES : Tok}
    (zc_House : PySem.W.nsIn K mainGlobals "House" = some (some (.ref C_House)))
    (zx_HouseError : PySem.W.nsIn K mainGlobals "HouseError" = some (some (.ref C_HouseError)))
    (zx_BadHouse : PySem.W.nsIn K mainGlobals "BadHouse" = some (some (.ref C_BadHouse)))
    (zx_BadWord : PySem.W.nsIn K mainGlobals "BadWord" = some (some (.ref C_BadWord)))
    (zx_BadText : PySem.W.nsIn K mainGlobals "BadText" = some (some (.ref C_BadText)))
    (za_0 : PySem.W.nsIn K mainGlobals "_law_draw" = some (some (.ref A__law_draw)))
    (zl_0 : K.lookup A__law_draw = some ⟨oc0, od0, .func (PySem.W.fnOf "_law_draw" "_law_draw" (defArgs st__law_draw) (defBody st__law_draw) (defScope st__law_draw) .none kV0 dc0 pm0 an0 cd0 ct0), sl0⟩)
    (zd_0 : PySem.W.codeIn K cd0 "_law_draw" = true)
    (zk_0 : PySem.W.keepIn K (.ref A__law_draw) = true)
    (za_1 : PySem.W.nsIn K mainGlobals "_law_ways_by" = some (some (.ref A__law_ways_by)))
    (zl_1 : K.lookup A__law_ways_by = some ⟨oc1, od1, .func (PySem.W.fnOf "_law_ways_by" "_law_ways_by" (defArgs st__law_ways_by) (defBody st__law_ways_by) (defScope st__law_ways_by) .none kV1 dc1 pm1 an1 cd1 ct1), sl1⟩)
    (zd_1 : PySem.W.codeIn K cd1 "_law_ways_by" = true)
    (zk_1 : PySem.W.keepIn K (.ref A__law_ways_by) = true)
    (za_2 : PySem.W.nsIn K mainGlobals "_law_lamps_by" = some (some (.ref A__law_lamps_by)))
    (zl_2 : K.lookup A__law_lamps_by = some ⟨oc2, od2, .func (PySem.W.fnOf "_law_lamps_by" "_law_lamps_by" (defArgs st__law_lamps_by) (defBody st__law_lamps_by) (defScope st__law_lamps_by) .none kV2 dc2 pm2 an2 cd2 ct2), sl2⟩)
    (zd_2 : PySem.W.codeIn K cd2 "_law_lamps_by" = true)
    (zk_2 : PySem.W.keepIn K (.ref A__law_lamps_by) = true)
    (za_3 : PySem.W.nsIn K mainGlobals "_law_text_of" = some (some (.ref A__law_text_of)))
    (zl_3 : K.lookup A__law_text_of = some ⟨oc3, od3, .func (PySem.W.fnOf "_law_text_of" "_law_text_of" (defArgs st__law_text_of) (defBody st__law_text_of) (defScope st__law_text_of) .none kV3 dc3 pm3 an3 cd3 ct3), sl3⟩)
    (zd_3 : PySem.W.codeIn K cd3 "_law_text_of" = true)
    (zk_3 : PySem.W.keepIn K (.ref A__law_text_of) = true)
    (za_4 : PySem.W.nsIn K mainGlobals "_law_cell_at" = some (some (.ref A__law_cell_at)))
    (zl_4 : K.lookup A__law_cell_at = some ⟨oc4, od4, .func (PySem.W.fnOf "_law_cell_at" "_law_cell_at" (defArgs st__law_cell_at) (defBody st__law_cell_at) (defScope st__law_cell_at) .none kV4 dc4 pm4 an4 cd4 ct4), sl4⟩)
    (zd_4 : PySem.W.codeIn K cd4 "_law_cell_at" = true)
    (zk_4 : PySem.W.keepIn K (.ref A__law_cell_at) = true)
    (za_5 : PySem.W.nsIn K mainGlobals "number" = some (some (.ref A_number)))
    (zl_5 : K.lookup A_number = some ⟨oc5, od5, .func (PySem.W.fnOf "number" "number" (defArgs st_number) (defBody st_number) (defScope st_number) .none kV5 dc5 pm5 an5 cd5 ct5), sl5⟩)
    (zd_5 : PySem.W.codeIn K cd5 "number" = true)
    (zk_5 : PySem.W.keepIn K (.ref A_number) = true)
    (za_6 : PySem.W.nsIn K mainGlobals "looked_through" = some (some (.ref A_looked_through)))
    (zl_6 : K.lookup A_looked_through = some ⟨oc6, od6, .func (PySem.W.fnOf "looked_through" "looked_through" (defArgs st_looked_through) (defBody st_looked_through) (defScope st_looked_through) .none kV6 dc6 pm6 an6 cd6 ct6), sl6⟩)
    (zd_6 : PySem.W.codeIn K cd6 "looked_through" = true)
    (zk_6 : PySem.W.keepIn K (.ref A_looked_through) = true)
    (za_7 : PySem.W.findIn K (.ref C_House) "__init__" = some (some (.ref A_House_init)))
    (zi_7 : PySem.W.isFn K (.ref A_House_init) = true)
    (zl_7 : K.lookup A_House_init = some ⟨oc7, od7, .func (PySem.W.fnOf "__init__" "House.__init__" (defArgs st_House_init) (defBody st_House_init) (defScope st_House_init) .none kV7 dc7 pm7 an7 cd7 ct7), sl7⟩)
    (zd_7 : PySem.W.codeIn K cd7 "House.__init__" = true)
    (zk_7 : PySem.W.keepIn K (.ref A_House_init) = true)
    (za_8 : PySem.W.nsIn K mainGlobals "made" = some (some (.ref A_made)))
    (zl_8 : K.lookup A_made = some ⟨oc8, od8, .func (PySem.W.fnOf "made" "made" (defArgs st_made) (defBody st_made) (defScope st_made) .none kV8 dc8 pm8 an8 cd8 ct8), sl8⟩)
    (zd_8 : PySem.W.codeIn K cd8 "made" = true)
    (zk_8 : PySem.W.keepIn K (.ref A_made) = true)
    (za_9 : PySem.W.nsIn K mainGlobals "read" = some (some (.ref A_read)))
    (zl_9 : K.lookup A_read = some ⟨oc9, od9, .func (PySem.W.fnOf "read" "read" (defArgs st_read) (defBody st_read) (defScope st_read) .none kV9 dc9 pm9 an9 cd9 ct9), sl9⟩)
    (zd_9 : PySem.W.codeIn K cd9 "read" = true)
    (zk_9 : PySem.W.keepIn K (.ref A_read) = true)
    (za_10 : PySem.W.nsIn K mainGlobals "_law_stands_under" = some (some (.ref A__law_stands_under)))
    (zl_10 : K.lookup A__law_stands_under = some ⟨oc10, od10, .func (PySem.W.fnOf "_law_stands_under" "_law_stands_under" (defArgs st__law_stands_under) (defBody st__law_stands_under) (defScope st__law_stands_under) .none kV10 dc10 pm10 an10 cd10 ct10), sl10⟩)
    (zd_10 : PySem.W.codeIn K cd10 "_law_stands_under" = true)
    (zk_10 : PySem.W.keepIn K (.ref A__law_stands_under) = true)
    (za_11 : PySem.W.nsIn K mainGlobals "_law_refused" = some (some (.ref A__law_refused)))
    (zl_11 : K.lookup A__law_refused = some ⟨oc11, od11, .func (PySem.W.fnOf "_law_refused" "_law_refused" (defArgs st__law_refused) (defBody st__law_refused) (defScope st__law_refused) .none kV11 dc11 pm11 an11 cd11 ct11), sl11⟩)
    (zd_11 : PySem.W.codeIn K cd11 "_law_refused" = true)
    (zk_11 : PySem.W.keepIn K (.ref A__law_refused) = true)
    (za_12 : PySem.W.nsIn K mainGlobals "_law_odd_number" = some (some (.ref A__law_odd_number)))
    (zl_12 : K.lookup A__law_odd_number = some ⟨oc12, od12, .func (PySem.W.fnOf "_law_odd_number" "_law_odd_number" (defArgs st__law_odd_number) (defBody st__law_odd_number) (defScope st__law_odd_number) .none kV12 dc12 pm12 an12 cd12 ct12), sl12⟩)
    (zd_12 : PySem.W.codeIn K cd12 "_law_odd_number" = true)
    (zk_12 : PySem.W.keepIn K (.ref A__law_odd_number) = true)
    (za_13 : PySem.W.nsIn K mainGlobals "_law_truths" = some (some (.ref A__law_truths)))
    (zl_13 : K.lookup A__law_truths = some ⟨oc13, od13, .func (PySem.W.fnOf "_law_truths" "_law_truths" (defArgs st__law_truths) (defBody st__law_truths) (defScope st__law_truths) .none kV13 dc13 pm13 an13 cd13 ct13), sl13⟩)
    (zd_13 : PySem.W.codeIn K cd13 "_law_truths" = true)
    (zk_13 : PySem.W.keepIn K (.ref A__law_truths) = true)
    (za_14 : PySem.W.nsIn K mainGlobals "_law_whole" = some (some (.ref A__law_whole)))
    (zl_14 : K.lookup A__law_whole = some ⟨oc14, od14, .func (PySem.W.fnOf "_law_whole" "_law_whole" (defArgs st__law_whole) (defBody st__law_whole) (defScope st__law_whole) .none kV14 dc14 pm14 an14 cd14 ct14), sl14⟩)
    (zd_14 : PySem.W.codeIn K cd14 "_law_whole" = true)
    (zk_14 : PySem.W.keepIn K (.ref A__law_whole) = true)
    (za_15 : PySem.W.nsIn K mainGlobals "_law_numbers" = some (some (.ref A__law_numbers)))
    (zl_15 : K.lookup A__law_numbers = some ⟨oc15, od15, .func (PySem.W.fnOf "_law_numbers" "_law_numbers" (defArgs st__law_numbers) (defBody st__law_numbers) (defScope st__law_numbers) .none kV15 dc15 pm15 an15 cd15 ct15), sl15⟩)
    (zd_15 : PySem.W.codeIn K cd15 "_law_numbers" = true)
    (zk_15 : PySem.W.keepIn K (.ref A__law_numbers) = true)
    (za_16 : PySem.W.nsIn K mainGlobals "_law_house_is" = some (some (.ref A__law_house_is)))
    (zl_16 : K.lookup A__law_house_is = some ⟨oc16, od16, .func (PySem.W.fnOf "_law_house_is" "_law_house_is" (defArgs st__law_house_is) (defBody st__law_house_is) (defScope st__law_house_is) .none kV16 dc16 pm16 an16 cd16 ct16), sl16⟩)
    (zd_16 : PySem.W.codeIn K cd16 "_law_house_is" = true)
    (zk_16 : PySem.W.keepIn K (.ref A__law_house_is) = true)
    (za_17 : PySem.W.nsIn K mainGlobals "law" = some (some (.ref A_law)))
    (zl_17 : K.lookup A_law = some ⟨oc17, od17, .func (PySem.W.fnOf "law" "law" (defArgs st_law) (defBody st_law) (defScope st_law) .none kV17 dc17 pm17 an17 cd17 ct17), sl17⟩)
    (zd_17 : PySem.W.codeIn K cd17 "law" = true)
    (zk_17 : PySem.W.keepIn K (.ref A_law) = true)
    (zpg_House : PySem.W.plainGet K C_House Str.empty = true)
    (zhd_House : PySem.W.hasDictIn K C_House = true)
    (zpo_House : PySem.W.plainOver K C_House = true)
    (zsa_House : PySem.W.findIn K (.ref C_House) "__setattr__" = some (some (.builtin "object.__setattr__")))
    (zmk_House : PySem.W.makesIn K C_House = true)
    (zkc_House : PySem.W.keepIn K (.ref C_House) = true)
    (zia_House : PySem.W.findIn K (.ref C_House) "__class__" = some (some (.builtin "object.__class__")))
    (zin_House : PySem.W.specialIn K (.builtin "object.__class__") "__get__" = some (some (.builtin "getset_descriptor.__get__")))
    (zit_House : PySem.W.takesIn K (.builtin "object.__class__") = some true)
    (zim_House : PySem.W.mroIn K C_House (.type "object") = some true)
    (zna_House_doors : PySem.W.findIn K (.ref C_House) "doors" = some none)
    (zna_House_ways : PySem.W.findIn K (.ref C_House) "ways" = some none)
    (zna_House_lamps : PySem.W.findIn K (.ref C_House) "lamps" = some none)
    (zxx_HouseError : PySem.W.excIn K C_HouseError [.type "ValueError", .type "Exception", .type "BaseException", .type "object"] "ValueError.__new__" = true)
    (zxk_HouseError : PySem.W.keepIn K (.ref C_HouseError) = true)
    (zxs_HouseError : PySem.W.subIn K (.ref C_HouseError) (.type "BaseException") = some true)
    (zxt_HouseError : PySem.W.typeIn K (.ref C_HouseError) = some (.type "type"))
    (zxg_HouseError : PySem.W.findIn K (.ref C_HouseError) "__getattribute__" = some (some (.builtin "BaseException.__getattribute__")))
    (zxh_HouseError : PySem.W.findIn K (.ref C_HouseError) "__getattr__" = some none)
    (zxd_HouseError : PySem.W.hasDictIn K C_HouseError = true)
    (zxa_HouseError : PySem.W.findIn K (.ref C_HouseError) "__class__" = some (some (.builtin "object.__class__")))
    (zxn_HouseError : PySem.W.specialIn K (.builtin "object.__class__") "__get__" = some (some (.builtin "getset_descriptor.__get__")))
    (zxq_HouseError : PySem.W.takesIn K (.builtin "object.__class__") = some true)
    (zxm_HouseError : PySem.W.mroIn K C_HouseError (.type "object") = some true)
    (zxz_HouseError : PySem.W.subIn K (.ref C_HouseError) (.ref C_HouseError) = some true)
    (zxv_HouseError : PySem.W.subIn K (.ref C_HouseError) (.type "ValueError") = some true)
    (zxx_BadHouse : PySem.W.excIn K C_BadHouse [.type "ValueError", .type "Exception", .type "BaseException", .type "object"] "ValueError.__new__" = true)
    (zxk_BadHouse : PySem.W.keepIn K (.ref C_BadHouse) = true)
    (zxs_BadHouse : PySem.W.subIn K (.ref C_BadHouse) (.type "BaseException") = some true)
    (zxt_BadHouse : PySem.W.typeIn K (.ref C_BadHouse) = some (.type "type"))
    (zxg_BadHouse : PySem.W.findIn K (.ref C_BadHouse) "__getattribute__" = some (some (.builtin "BaseException.__getattribute__")))
    (zxh_BadHouse : PySem.W.findIn K (.ref C_BadHouse) "__getattr__" = some none)
    (zxd_BadHouse : PySem.W.hasDictIn K C_BadHouse = true)
    (zxa_BadHouse : PySem.W.findIn K (.ref C_BadHouse) "__class__" = some (some (.builtin "object.__class__")))
    (zxn_BadHouse : PySem.W.specialIn K (.builtin "object.__class__") "__get__" = some (some (.builtin "getset_descriptor.__get__")))
    (zxq_BadHouse : PySem.W.takesIn K (.builtin "object.__class__") = some true)
    (zxm_BadHouse : PySem.W.mroIn K C_BadHouse (.type "object") = some true)
    (zxz_BadHouse : PySem.W.subIn K (.ref C_BadHouse) (.ref C_BadHouse) = some true)
    (zxv_BadHouse : PySem.W.subIn K (.ref C_BadHouse) (.type "ValueError") = some true)
    (zxx_BadWord : PySem.W.excIn K C_BadWord [.type "ValueError", .type "Exception", .type "BaseException", .type "object"] "ValueError.__new__" = true)
    (zxk_BadWord : PySem.W.keepIn K (.ref C_BadWord) = true)
    (zxs_BadWord : PySem.W.subIn K (.ref C_BadWord) (.type "BaseException") = some true)
    (zxt_BadWord : PySem.W.typeIn K (.ref C_BadWord) = some (.type "type"))
    (zxg_BadWord : PySem.W.findIn K (.ref C_BadWord) "__getattribute__" = some (some (.builtin "BaseException.__getattribute__")))
    (zxh_BadWord : PySem.W.findIn K (.ref C_BadWord) "__getattr__" = some none)
    (zxd_BadWord : PySem.W.hasDictIn K C_BadWord = true)
    (zxa_BadWord : PySem.W.findIn K (.ref C_BadWord) "__class__" = some (some (.builtin "object.__class__")))
    (zxn_BadWord : PySem.W.specialIn K (.builtin "object.__class__") "__get__" = some (some (.builtin "getset_descriptor.__get__")))
    (zxq_BadWord : PySem.W.takesIn K (.builtin "object.__class__") = some true)
    (zxm_BadWord : PySem.W.mroIn K C_BadWord (.type "object") = some true)
    (zxz_BadWord : PySem.W.subIn K (.ref C_BadWord) (.ref C_BadWord) = some true)
    (zxv_BadWord : PySem.W.subIn K (.ref C_BadWord) (.type "ValueError") = some true)
    (zxx_BadText : PySem.W.excIn K C_BadText [.type "ValueError", .type "Exception", .type "BaseException", .type "object"] "ValueError.__new__" = true)
    (zxk_BadText : PySem.W.keepIn K (.ref C_BadText) = true)
    (zxs_BadText : PySem.W.subIn K (.ref C_BadText) (.type "BaseException") = some true)
    (zxt_BadText : PySem.W.typeIn K (.ref C_BadText) = some (.type "type"))
    (zxg_BadText : PySem.W.findIn K (.ref C_BadText) "__getattribute__" = some (some (.builtin "BaseException.__getattribute__")))
    (zxh_BadText : PySem.W.findIn K (.ref C_BadText) "__getattr__" = some none)
    (zxd_BadText : PySem.W.hasDictIn K C_BadText = true)
    (zxa_BadText : PySem.W.findIn K (.ref C_BadText) "__class__" = some (some (.builtin "object.__class__")))
    (zxn_BadText : PySem.W.specialIn K (.builtin "object.__class__") "__get__" = some (some (.builtin "getset_descriptor.__get__")))
    (zxq_BadText : PySem.W.takesIn K (.builtin "object.__class__") = some true)
    (zxm_BadText : PySem.W.mroIn K C_BadText (.type "object") = some true)
    (zxz_BadText : PySem.W.subIn K (.ref C_BadText) (.ref C_BadText) = some true)
    (zxv_BadText : PySem.W.subIn K (.ref C_BadText) (.type "ValueError") = some true)
    (zxu_BadHouse_HouseError : PySem.W.subIn K (.ref C_BadHouse) (.ref C_HouseError) = some true)
    (zxu_BadText_BadHouse : PySem.W.subIn K (.ref C_BadText) (.ref C_BadHouse) = some false)
    (zxu_BadText_BadWord : PySem.W.subIn K (.ref C_BadText) (.ref C_BadWord) = some false)
    (zxu_BadText_HouseError : PySem.W.subIn K (.ref C_BadText) (.ref C_HouseError) = some true)
    (zxu_BadWord_HouseError : PySem.W.subIn K (.ref C_BadWord) (.ref C_HouseError) = some true)
    (zg_MOST_DOORS : PySem.W.nsIn K mainGlobals "MOST_DOORS" = some (some (.int 6 tk_MOST_DOORS)))
    (zg_MOST_ROOMS : PySem.W.nsIn K mainGlobals "MOST_ROOMS" = some (some (.int 400 tk_MOST_ROOMS)))
    (zg_FIGURES : PySem.W.nsIn K mainGlobals "FIGURES" = some (some (.str "0123456789" tk_FIGURES)))
    (zn_ValueError : PySem.W.nsIn K mainGlobals "ValueError" = some none)
    (zn_bool : PySem.W.nsIn K mainGlobals "bool" = some none)
    (zn_int : PySem.W.nsIn K mainGlobals "int" = some none)
    (zn_isinstance : PySem.W.nsIn K mainGlobals "isinstance" = some none)
    (zn_len : PySem.W.nsIn K mainGlobals "len" = some none)
    (zn_list : PySem.W.nsIn K mainGlobals "list" = some none)
    (zn_range : PySem.W.nsIn K mainGlobals "range" = some none)
    (zn_str : PySem.W.nsIn K mainGlobals "str" = some none)
    : ∃ fd : FuncData, (∀ (s : Shared) (v : Value), BindsTo s fd ⟨[v], []⟩ [("script", v)]) ∧ ∀ base : Heap, K.In base → base.Ns mainGlobals mg → FnOk l.prog w K mg base (L2.CX l.prog w) 7 fa fd ["script"] (spG K 1 (fnV RLaw)) := by
  have e := hfa.symm.trans (PySem.W.mg_of X G za_17)
  cases e
  have F0 := fun_mk (st := st__law_draw) zl_0 zd_0 zk_0
  have F1 := fun_mk (st := st__law_ways_by) zl_1 zd_1 zk_1
  have F2 := fun_mk (st := st__law_lamps_by) zl_2 zd_2 zk_2
  have F3 := fun_mk (st := st__law_text_of) zl_3 zd_3 zk_3
  have F4 := fun_mk (st := st__law_cell_at) zl_4 zd_4 zk_4
  have F5 := fun_mk (st := st_number) zl_5 zd_5 zk_5
  have F6 := fun_mk (st := st_looked_through) zl_6 zd_6 zk_6
  have F7 := fun_mk (st := st_House_init) zl_7 zd_7 zk_7
  have F8 := fun_mk (st := st_made) zl_8 zd_8 zk_8
  have F9 := fun_mk (st := st_read) zl_9 zd_9 zk_9
  have F10 := fun_mk (st := st__law_stands_under) zl_10 zd_10 zk_10
  have F11 := fun_mk (st := st__law_refused) zl_11 zd_11 zk_11
  have F12 := fun_mk (st := st__law_odd_number) zl_12 zd_12 zk_12
  have F13 := fun_mk (st := st__law_truths) zl_13 zd_13 zk_13
  have F14 := fun_mk (st := st__law_whole) zl_14 zd_14 zk_14
  have F15 := fun_mk (st := st__law_numbers) zl_15 zd_15 zk_15
  have F16 := fun_mk (st := st__law_house_is) zl_16 zd_16 zk_16
  have F17 := fun_mk (st := st_law) zl_17 zd_17 zk_17
  let T : Txt K mg := {
    c_House := C_House, g_House := PySem.W.mg_of X G zc_House, cl_House := ⟨zpg_House, zhd_House, zpo_House, zsa_House⟩,
    ty_House := ⟨⟨zpg_House, zhd_House, zpo_House, zsa_House⟩, zia_House, zin_House, zit_House, zim_House⟩,
    na_House_doors := zna_House_doors,
    na_House_ways := zna_House_ways,
    na_House_lamps := zna_House_lamps,
    c_HouseError := C_HouseError, g_HouseError := PySem.W.mg_of X G zx_HouseError, x_HouseError := zxx_HouseError, k_HouseError := zxk_HouseError, s_HouseError := zxs_HouseError, t_HouseError := zxt_HouseError,
    c_BadHouse := C_BadHouse, g_BadHouse := PySem.W.mg_of X G zx_BadHouse, x_BadHouse := zxx_BadHouse, k_BadHouse := zxk_BadHouse, s_BadHouse := zxs_BadHouse, t_BadHouse := zxt_BadHouse,
    c_BadWord := C_BadWord, g_BadWord := PySem.W.mg_of X G zx_BadWord, x_BadWord := zxx_BadWord, k_BadWord := zxk_BadWord, s_BadWord := zxs_BadWord, t_BadWord := zxt_BadWord,
    c_BadText := C_BadText, g_BadText := PySem.W.mg_of X G zx_BadText, x_BadText := zxx_BadText, k_BadText := zxk_BadText, s_BadText := zxs_BadText, t_BadText := zxt_BadText,
    y_HouseError := ⟨zxg_HouseError, zxh_HouseError, zxs_HouseError, zxd_HouseError, zxa_HouseError, zxn_HouseError, zxq_HouseError, zxm_HouseError⟩, z_HouseError := zxz_HouseError, v_HouseError := zxv_HouseError,
    y_BadHouse := ⟨zxg_BadHouse, zxh_BadHouse, zxs_BadHouse, zxd_BadHouse, zxa_BadHouse, zxn_BadHouse, zxq_BadHouse, zxm_BadHouse⟩, z_BadHouse := zxz_BadHouse, v_BadHouse := zxv_BadHouse,
    y_BadWord := ⟨zxg_BadWord, zxh_BadWord, zxs_BadWord, zxd_BadWord, zxa_BadWord, zxn_BadWord, zxq_BadWord, zxm_BadWord⟩, z_BadWord := zxz_BadWord, v_BadWord := zxv_BadWord,
    y_BadText := ⟨zxg_BadText, zxh_BadText, zxs_BadText, zxd_BadText, zxa_BadText, zxn_BadText, zxq_BadText, zxm_BadText⟩, z_BadText := zxz_BadText, v_BadText := zxv_BadText,
    u_BadHouse_HouseError := zxu_BadHouse_HouseError,
    u_BadText_BadHouse := zxu_BadText_BadHouse,
    u_BadText_BadWord := zxu_BadText_BadWord,
    u_BadText_HouseError := zxu_BadText_HouseError,
    u_BadWord_HouseError := zxu_BadWord_HouseError,
    tk_MOST_DOORS := tk_MOST_DOORS, g_MOST_DOORS := PySem.W.mg_of X G zg_MOST_DOORS,
    tk_MOST_ROOMS := tk_MOST_ROOMS, g_MOST_ROOMS := PySem.W.mg_of X G zg_MOST_ROOMS,
    tk_FIGURES := tk_FIGURES, g_FIGURES := PySem.W.mg_of X G zg_FIGURES,
    n_ValueError := PySem.W.mg_none_of X G zn_ValueError,
    n_bool := PySem.W.mg_none_of X G zn_bool,
    n_int := PySem.W.mg_none_of X G zn_int,
    n_isinstance := PySem.W.mg_none_of X G zn_isinstance,
    n_len := PySem.W.mg_none_of X G zn_len,
    n_list := PySem.W.mg_none_of X G zn_list,
    n_range := PySem.W.mg_none_of X G zn_range,
    n_str := PySem.W.mg_none_of X G zn_str,
    a__law_draw := A__law_draw, fd__law_draw := _, f__law_draw := F0,
    b__law_draw := F0.binds (ps := ["cell", "k", "bound"]) fun _ _ _ _ _ _ us hl => match us, hl with | [_, _, _], _ => rfl,
    g__law_draw := PySem.W.mg_of X G za_0,
    a__law_ways_by := A__law_ways_by, fd__law_ways_by := _, f__law_ways_by := F1,
    b__law_ways_by := F1.binds (ps := ["cell", "doors", "rooms"]) fun _ _ _ _ _ _ us hl => match us, hl with | [_, _, _], _ => rfl,
    g__law_ways_by := PySem.W.mg_of X G za_1,
    a__law_lamps_by := A__law_lamps_by, fd__law_lamps_by := _, f__law_lamps_by := F2,
    b__law_lamps_by := F2.binds (ps := ["cell", "rooms"]) fun _ _ _ _ _ _ us hl => match us, hl with | [_, _], _ => rfl,
    g__law_lamps_by := PySem.W.mg_of X G za_2,
    a__law_text_of := A__law_text_of, fd__law_text_of := _, f__law_text_of := F3,
    b__law_text_of := F3.binds (ps := ["doors", "ways", "lamps"]) fun _ _ _ _ _ _ us hl => match us, hl with | [_, _, _], _ => rfl,
    g__law_text_of := PySem.W.mg_of X G za_3,
    a__law_cell_at := A__law_cell_at, fd__law_cell_at := _, f__law_cell_at := F4,
    b__law_cell_at := F4.binds (ps := ["script", "k"]) fun _ _ _ _ _ _ us hl => match us, hl with | [_, _], _ => rfl,
    g__law_cell_at := PySem.W.mg_of X G za_4,
    a_number := A_number, fd_number := _, f_number := F5,
    b_number := F5.binds (ps := ["word"]) fun _ _ _ _ _ _ us hl => match us, hl with | [_], _ => rfl,
    g_number := PySem.W.mg_of X G za_5,
    a_looked_through := A_looked_through, fd_looked_through := _, f_looked_through := F6,
    b_looked_through := F6.binds (ps := ["doors", "ways", "lamps"]) fun _ _ _ _ _ _ us hl => match us, hl with | [_, _, _], _ => rfl,
    g_looked_through := PySem.W.mg_of X G za_6,
    a_House_init := A_House_init, fd_House_init := _, f_House_init := F7,
    b_House_init := F7.binds (ps := ["self", "doors", "ways", "lamps"]) fun _ _ _ _ _ _ us hl => match us, hl with | [_, _, _, _], _ => rfl,
    mk_House := ⟨zmk_House, za_7, zi_7, zkc_House⟩,
    a_made := A_made, fd_made := _, f_made := F8,
    b_made := F8.binds (ps := ["doors", "ways", "lamps"]) fun _ _ _ _ _ _ us hl => match us, hl with | [_, _, _], _ => rfl,
    g_made := PySem.W.mg_of X G za_8,
    a_read := A_read, fd_read := _, f_read := F9,
    b_read := F9.binds (ps := ["text"]) fun _ _ _ _ _ _ us hl => match us, hl with | [_], _ => rfl,
    g_read := PySem.W.mg_of X G za_9,
    a__law_stands_under := A__law_stands_under, fd__law_stands_under := _, f__law_stands_under := F10,
    b__law_stands_under := F10.binds (ps := ["e"]) fun _ _ _ _ _ _ us hl => match us, hl with | [_], _ => rfl,
    g__law_stands_under := PySem.W.mg_of X G za_10,
    a__law_refused := A__law_refused, fd__law_refused := _, f__law_refused := F11,
    b__law_refused := F11.binds (ps := ["text"]) fun _ _ _ _ _ _ us hl => match us, hl with | [_], _ => rfl,
    g__law_refused := PySem.W.mg_of X G za_11,
    a__law_odd_number := A__law_odd_number, fd__law_odd_number := _, f__law_odd_number := F12,
    b__law_odd_number := F12.binds (ps := ["cell", "figures", "rooms"]) fun _ _ _ _ _ _ us hl => match us, hl with | [_, _, _], _ => rfl,
    g__law_odd_number := PySem.W.mg_of X G za_12,
    a__law_truths := A__law_truths, fd__law_truths := _, f__law_truths := F13,
    b__law_truths := F13.binds (ps := ["found", "due"]) fun _ _ _ _ _ _ us hl => match us, hl with | [_, _], _ => rfl,
    g__law_truths := PySem.W.mg_of X G za_13,
    a__law_whole := A__law_whole, fd__law_whole := _, f__law_whole := F14,
    b__law_whole := F14.binds (ps := ["found"]) fun _ _ _ _ _ _ us hl => match us, hl with | [_], _ => rfl,
    g__law_whole := PySem.W.mg_of X G za_14,
    a__law_numbers := A__law_numbers, fd__law_numbers := _, f__law_numbers := F15,
    b__law_numbers := F15.binds (ps := ["found", "due"]) fun _ _ _ _ _ _ us hl => match us, hl with | [_, _], _ => rfl,
    g__law_numbers := PySem.W.mg_of X G za_15,
    a__law_house_is := A__law_house_is, fd__law_house_is := _, f__law_house_is := F16,
    b__law_house_is := F16.binds (ps := ["found", "doors", "ways", "lamps"]) fun _ _ _ _ _ _ us hl => match us, hl with | [_, _, _, _], _ => rfl,
    g__law_house_is := PySem.W.mg_of X G za_16,
    a_law := fa, fd_law := _, f_law := F17,
    b_law := F17.binds (ps := ["script"]) fun _ _ _ _ _ _ us hl => match us, hl with | [_], _ => rfl,
    g_law := PySem.W.mg_of X G za_17 }
  exact ⟨PySem.W.fnOf "law" "law" (defArgs st_law) (defBody st_law) (defScope st_law) .none kV17 dc17 pm17 an17 cd17 ct17, fun s v => .of_eq rfl, fun base _ _ => ok_law T⟩
theorem walk {l : PySem.W.OpenLaw} {q : Program} {loose : List Str} {XP : (Str → Option Value) → Heap → Prop} {YP : World → Heap → Prop} {d : DefRec} {K : Params → PySem.W.Frag} (hn : l.most = some 63) (hdf : d.params.defaults = [])
    (hY : ∀ (w : World) (h : Heap), YP w h → (K w.params).In h)
    (F : ∀ (w : World) (mg : Str → Option Value) (fa : Addr) (h : Heap), (K w.params).In h → h.Ns mainGlobals mg → mg d.name = some (.ref fa) →
      ∃ fd : FuncData, (∀ (s : Shared) (u : Value), BindsTo s fd ⟨[u], []⟩ [("script", u)]) ∧ ∀ base : Heap, (K w.params).In base → base.Ns mainGlobals mg → FnOk l.prog w (K w.params) mg base (L2.CX l.prog w) 7 fa fd ["script"] (spG (K w.params) 1 (fnV RLaw))) :
    PySem.W.WalkO q loose XP YP l.row.toRowW d [] (fun f vs => PySem.call f vs) :=
  L2.walk_of (n := 63) (k := 7) (x := "script") (CX := fun w => L2.CX l.prog w) (sp := fun w => spG (K w.params) 1 (fnV RLaw)) hn (by decide) hdf ⟨rfl, by decide, by decide⟩ hY F (fun _ _ a ns hl _ hS => law_start hl hS) fun _ _ _ _ _ z => law_cx z
end Lawk15

open PySem PySem.W PyProof.Rows
set_option maxRecDepth 100000 in
set_option maxHeartbeats 0 in
theorem PySem.Challenge.cw_askhouse_k15_texts_that_write_no_house_holds : PySem.Challenge.rw_askhouse_k15_texts_that_write_no_house.Holds := by
  w_on; o_law; k_head; (case hw => w_witness2)
  k_fill
  refine Lawk15.walk (l := PySem.Challenge.rw_askhouse_k15_texts_that_write_no_house) rfl rfl (fun w h Y => PySem.W.kIn_of Y) ?F
  case F =>
    intro w mg fa h KX G hmg
    refine' Lawk15.all_mk KX G hmg ?zc_House ?zx_HouseError ?zx_BadHouse ?zx_BadWord ?zx_BadText ?za_0 ?zl_0 ?zd_0 ?zk_0 ?za_1 ?zl_1 ?zd_1 ?zk_1 ?za_2 ?zl_2 ?zd_2 ?zk_2 ?za_3 ?zl_3 ?zd_3 ?zk_3 ?za_4 ?zl_4 ?zd_4 ?zk_4 ?za_5 ?zl_5 ?zd_5 ?zk_5 ?za_6 ?zl_6 ?zd_6 ?zk_6 ?za_7 ?zi_7 ?zl_7 ?zd_7 ?zk_7 ?za_8 ?zl_8 ?zd_8 ?zk_8 ?za_9 ?zl_9 ?zd_9 ?zk_9 ?za_10 ?zl_10 ?zd_10 ?zk_10 ?za_11 ?zl_11 ?zd_11 ?zk_11 ?za_12 ?zl_12 ?zd_12 ?zk_12 ?za_13 ?zl_13 ?zd_13 ?zk_13 ?za_14 ?zl_14 ?zd_14 ?zk_14 ?za_15 ?zl_15 ?zd_15 ?zk_15 ?za_16 ?zl_16 ?zd_16 ?zk_16 ?za_17 ?zl_17 ?zd_17 ?zk_17 ?zpg_House ?zhd_House ?zpo_House ?zsa_House ?zmk_House ?zkc_House ?zia_House ?zin_House ?zit_House ?zim_House ?zna_House_doors ?zna_House_ways ?zna_House_lamps ?zxx_HouseError ?zxk_HouseError ?zxs_HouseError ?zxt_HouseError ?zxg_HouseError ?zxh_HouseError ?zxd_HouseError ?zxa_HouseError ?zxn_HouseError ?zxq_HouseError ?zxm_HouseError ?zxz_HouseError ?zxv_HouseError ?zxx_BadHouse ?zxk_BadHouse ?zxs_BadHouse ?zxt_BadHouse ?zxg_BadHouse ?zxh_BadHouse ?zxd_BadHouse ?zxa_BadHouse ?zxn_BadHouse ?zxq_BadHouse ?zxm_BadHouse ?zxz_BadHouse ?zxv_BadHouse ?zxx_BadWord ?zxk_BadWord ?zxs_BadWord ?zxt_BadWord ?zxg_BadWord ?zxh_BadWord ?zxd_BadWord ?zxa_BadWord ?zxn_BadWord ?zxq_BadWord ?zxm_BadWord ?zxz_BadWord ?zxv_BadWord ?zxx_BadText ?zxk_BadText ?zxs_BadText ?zxt_BadText ?zxg_BadText ?zxh_BadText ?zxd_BadText ?zxa_BadText ?zxn_BadText ?zxq_BadText ?zxm_BadText ?zxz_BadText ?zxv_BadText ?zxu_BadHouse_HouseError ?zxu_BadText_BadHouse ?zxu_BadText_BadWord ?zxu_BadText_HouseError ?zxu_BadWord_HouseError ?zg_MOST_DOORS ?zg_MOST_ROOMS ?zg_FIGURES ?zn_ValueError ?zn_bool ?zn_int ?zn_isinstance ?zn_len ?zn_list ?zn_range ?zn_str
    (case zc_House => k_is)
    (case zx_HouseError => k_is)
    (case zx_BadHouse => k_is)
    (case zx_BadWord => k_is)
    (case zx_BadText => k_is)
    (case za_0 => k_is)
    (case zl_0 => k_is)
    (case zd_0 => k_is)
    (case zk_0 => k_is)
    (case za_1 => k_is)
    (case zl_1 => k_is)
    (case zd_1 => k_is)
    (case zk_1 => k_is)
    (case za_2 => k_is)
    (case zl_2 => k_is)
    (case zd_2 => k_is)
    (case zk_2 => k_is)
    (case za_3 => k_is)
    (case zl_3 => k_is)
    (case zd_3 => k_is)
    (case zk_3 => k_is)
    (case za_4 => k_is)
    (case zl_4 => k_is)
    (case zd_4 => k_is)
    (case zk_4 => k_is)
    (case za_5 => k_is)
    (case zl_5 => k_is)
    (case zd_5 => k_is)
    (case zk_5 => k_is)
    (case za_6 => k_is)
    (case zl_6 => k_is)
    (case zd_6 => k_is)
    (case zk_6 => k_is)
    (case za_7 => k_is)
    (case zi_7 => k_is)
    (case zl_7 => k_is)
    (case zd_7 => k_is)
    (case zk_7 => k_is)
    (case za_8 => k_is)
    (case zl_8 => k_is)
    (case zd_8 => k_is)
    (case zk_8 => k_is)
    (case za_9 => k_is)
    (case zl_9 => k_is)
    (case zd_9 => k_is)
    (case zk_9 => k_is)
    (case za_10 => k_is)
    (case zl_10 => k_is)
    (case zd_10 => k_is)
    (case zk_10 => k_is)
    (case za_11 => k_is)
    (case zl_11 => k_is)
    (case zd_11 => k_is)
    (case zk_11 => k_is)
    (case za_12 => k_is)
    (case zl_12 => k_is)
    (case zd_12 => k_is)
    (case zk_12 => k_is)
    (case za_13 => k_is)
    (case zl_13 => k_is)
    (case zd_13 => k_is)
    (case zk_13 => k_is)
    (case za_14 => k_is)
    (case zl_14 => k_is)
    (case zd_14 => k_is)
    (case zk_14 => k_is)
    (case za_15 => k_is)
    (case zl_15 => k_is)
    (case zd_15 => k_is)
    (case zk_15 => k_is)
    (case za_16 => k_is)
    (case zl_16 => k_is)
    (case zd_16 => k_is)
    (case zk_16 => k_is)
    (case za_17 => k_is)
    (case zl_17 => k_is)
    (case zd_17 => k_is)
    (case zk_17 => k_is)
    (case zpg_House => k_is)
    (case zhd_House => k_is)
    (case zpo_House => k_is)
    (case zsa_House => k_is)
    (case zmk_House => k_is)
    (case zkc_House => k_is)
    (case zia_House => k_is)
    (case zin_House => k_is)
    (case zit_House => k_is)
    (case zim_House => k_is)
    (case zna_House_doors => k_is)
    (case zna_House_ways => k_is)
    (case zna_House_lamps => k_is)
    (case zxx_HouseError => k_exc)
    (case zxk_HouseError => k_is)
    (case zxs_HouseError => k_is)
    (case zxt_HouseError => k_is)
    (case zxg_HouseError => k_is)
    (case zxh_HouseError => k_is)
    (case zxd_HouseError => k_is)
    (case zxa_HouseError => k_is)
    (case zxn_HouseError => k_is)
    (case zxq_HouseError => k_is)
    (case zxm_HouseError => k_is)
    (case zxz_HouseError => k_is)
    (case zxv_HouseError => k_is)
    (case zxx_BadHouse => k_exc)
    (case zxk_BadHouse => k_is)
    (case zxs_BadHouse => k_is)
    (case zxt_BadHouse => k_is)
    (case zxg_BadHouse => k_is)
    (case zxh_BadHouse => k_is)
    (case zxd_BadHouse => k_is)
    (case zxa_BadHouse => k_is)
    (case zxn_BadHouse => k_is)
    (case zxq_BadHouse => k_is)
    (case zxm_BadHouse => k_is)
    (case zxz_BadHouse => k_is)
    (case zxv_BadHouse => k_is)
    (case zxx_BadWord => k_exc)
    (case zxk_BadWord => k_is)
    (case zxs_BadWord => k_is)
    (case zxt_BadWord => k_is)
    (case zxg_BadWord => k_is)
    (case zxh_BadWord => k_is)
    (case zxd_BadWord => k_is)
    (case zxa_BadWord => k_is)
    (case zxn_BadWord => k_is)
    (case zxq_BadWord => k_is)
    (case zxm_BadWord => k_is)
    (case zxz_BadWord => k_is)
    (case zxv_BadWord => k_is)
    (case zxx_BadText => k_exc)
    (case zxk_BadText => k_is)
    (case zxs_BadText => k_is)
    (case zxt_BadText => k_is)
    (case zxg_BadText => k_is)
    (case zxh_BadText => k_is)
    (case zxd_BadText => k_is)
    (case zxa_BadText => k_is)
    (case zxn_BadText => k_is)
    (case zxq_BadText => k_is)
    (case zxm_BadText => k_is)
    (case zxz_BadText => k_is)
    (case zxv_BadText => k_is)
    (case zxu_BadHouse_HouseError => k_is)
    (case zxu_BadText_BadHouse => k_is)
    (case zxu_BadText_BadWord => k_is)
    (case zxu_BadText_HouseError => k_is)
    (case zxu_BadWord_HouseError => k_is)
    (case zg_MOST_DOORS => k_is)
    (case zg_MOST_ROOMS => k_is)
    (case zg_FIGURES => k_is)
    (case zn_ValueError => k_is)
    (case zn_bool => k_is)
    (case zn_int => k_is)
    (case zn_isinstance => k_is)
    (case zn_len => k_is)
    (case zn_list => k_is)
    (case zn_range => k_is)
    (case zn_str => k_is)
