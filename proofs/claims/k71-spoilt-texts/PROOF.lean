import PyProof.Rows.All
import Wide.All
import OpenK.AllK
import Wide.FinOn
import HandS.ForMost
import HandS.ForExc
import KE.KDictKeyed
import HandS.CallSlots
import HandS.Rev
import HandS.Zip
import HandS.RevRange
import HandS.Conv
import HandS.IsInst
import HandS.SortInts
import HandS.More
import HandS.Wide
import HandS.Text
import HandS.WordsDict
import HandS.TupAny
import HandS.Small
import HandS.Style
import KE.GoesMore
import PyProof.Draws
import PyProof.EnumMake
import HandS.Exc
import HandS.ExcIs
import HandS.ExcOwn
import HandS.ExcValue
import PyProof.ExcBaseAll.ValueError
import PyProof.ZipIter
import PyProof.ListNew
import HandS.TryOnly
import HandS.Defaults
import HandS.Iter
import KE.SortData
import KE.KDictDisplayH
import HandS.TupMul
import HandS.Deep
import HandS.TryElse
import PyProof.LongRange
import HandS.TryMany
import HandS.StrMore
import HandS.FStr
import HandS.Codes
import HandS.ExcInit
import HandS.ExcField
import HandS.Comp
import KE.GoesComp
import KE.GoesRaise
import PySem.Challenge.RW_tapeproof_k71_spoilt_texts
set_option Elab.async false
set_option linter.all false
set_option maxRecDepth 100000
set_option maxHeartbeats 4000000
namespace VL
open PySem PySem.Spec PyProof.Rows L2

/-- plain data -/
inductive D where
  | non | bl (b : Bool) | int (i : Int) | str (x : Str)
  | lst (xs : List D) | tup (xs : List D) | dct (kvs : List (Key × D)) | obj (C : Addr) (fs : List (Str × D)) | scr (ns : List Int) | exc (C : Addr) | ndc (kvs : List (NestedKey × D)) | exf (C : Addr) (fs : List (Str × D))
/-- a caught exception of the class cls, kept -/
def ExF (cls : Value) (dd : Addr) (a : Addr) : HO := .ext fun h => ∃ (oe : Obj) (vs : Array Value), h.get? a = some oe ∧ Zc cls (some dd) oe ∧ oe.data = .fields vs
def ExK (cls : Value) (a : Addr) : HO := .ext fun h => ∃ (oe : Obj) (vs : Array Value), h.get? a = some oe ∧ Zc cls none oe ∧ oe.data = .fields vs

/-! dicts whose keys are nested tuples of whole numbers -/
mutual
def nkOk : NestedKey → Bool
  | .none => true
  | .num _ => true
  | .text _ => false
  | .tup ks => nkOks ks
def nkOks : List NestedKey → Bool
  | [] => true
  | k :: ks => nkOk k && nkOks ks
end
mutual
def nkHash : NestedKey → Int
  | .none => reduceHash 0xFCA86420
  | .num i => hashInt i
  | .text _ => 0
  | .tup ks => reduceHash (Builtin.Tuple.tupleHashOf (nkHashes ks))
def nkHashes : List NestedKey → List Int
  | [] => []
  | k :: ks => nkHash k :: nkHashes ks
end
def isTup : NestedKey → Bool
  | .tup _ => true
  | _ => false
/-- the data of a key -/
def nkGood (k : NestedKey) : Bool := nkOk k && isTup k && Nat.ble k.depth 8
mutual
def nkD : NestedKey → D
  | .none => .non
  | .num i => .int i
  | .text x => .str x
  | .tup ks => .tup (nkDs ks)
def nkDs : List NestedKey → List D
  | [] => []
  | k :: ks => nkD k :: nkDs ks
end
abbrev NEnt := NestedKey × Addr × V
abbrev NRel (p : NEnt) (q : NestedKey × Addr × Value) : Prop := p.1 = q.1 ∧ p.2.1 = q.2.1 ∧ RelV p.2.2 q.2.2
/-- the object of such a dict: the keys' own tuples stand at the addresses told -/
def NDo (a : Addr) (ep : Nat) (xs : List NEnt) : HO := .ext fun h => xs.length ≤ sizeLine ∧ (a == sysModules) = false ∧ (xs.map (·.1)).Nodup ∧ (∀ x ∈ xs, nkGood x.1 = true) ∧
  ∃ (ys : List (NestedKey × Addr × Value)) (o : Obj) (es : Array DictEntry), Paired NRel xs ys ∧ h.get? a = some o ∧ o.ExactDict ∧ o.data = .dict es ep ∧ es.toList = ys.map fun x => ⟨nkHash x.1, .ref x.2.1, x.2.2⟩

def Ex (H H' : Hp) : Prop := ∀ a o, H a = some o → H' a = some o
theorem Ex.refl (H : Hp) : Ex H H := fun _ _ h => h
theorem Ex.trans {H H1 H2 : Hp} (a : Ex H H1) (b : Ex H1 H2) : Ex H H2 := fun x o h => b x o (a x o h)
theorem Ex.new {H : Hp} {p : Addr} {o : HO} (h : H p = none) : Ex H (upd H p o) := fun a u e => by
  rw [upd_ne (ne_of_none e h)]
  exact e
theorem Ex.rd {H H' : Hp} {a : Addr} {u : HO} (e : Ex H H') (h : Rd H a u) : Rd H' a u := by
  rcases h with h | ⟨o, h⟩
  · exact Or.inl (e a _ h)
  · exact Or.inr ⟨o, e a _ h⟩
theorem Ex.l {K : PySem.W.Frag} {H H' : Hp} {a : Addr} {xs : List V} (e : Ex H H') (h : SqL K H a xs) : SqL K H' a xs := by
  rcases h with h | h
  · exact Or.inl (e.rd h)
  · exact Or.inr h
theorem Ex.t {K : PySem.W.Frag} {H H' : Hp} {a : Addr} {xs : List V} (e : Ex H H') (h : SqT K H a xs) : SqT K H' a xs := by
  rcases h with h | h
  · exact Or.inl (e.rd h)
  · exact Or.inr h
theorem Ex.free {H H' : Hp} {p : Addr} (e : Ex H H') (h : H' p = none) : H p = none := by
  cases h1 : H p with
  | none => rfl
  | some o => rw [e p o h1] at h; cases h

mutual
/-- the value v is the data d, all of it standing in G -/
inductive Dt (K : PySem.W.Frag) (G : Hp) : V → D → Prop
  | non : Dt K G .non .non
  | bl (b : Bool) : Dt K G (.bl b) (.bl b)
  | int (i : Int) : Dt K G (.int i) (.int i)
  | str (x : Str) : Dt K G (.str x) (.str x)
  | lst {a : Addr} {xs : List V} {ds : List D} : G a = some (.lst xs) → DtA K G xs ds → Dt K G (.ref a) (.lst ds)
  | scr {a : Addr} {ns : List Int} : SqL K G a (ns.map V.int) → Dt K G (.ref a) (.scr ns)
  | tup {a : Addr} {xs : List V} {ds : List D} : SqT K G a xs → DtA K G xs ds → Dt K G (.ref a) (.tup ds)
  | dct {a : Addr} {kvs : List (Key × V)} {ds : List (Key × D)} : Rd G a (.dK kvs) → DtK K G kvs ds → Dt K G (.ref a) (.dct ds)
  | exc {a C : Addr} : G a = some (ExK (.ref C) a) → Dt K G (.ref a) (.exc C)
  | exf {a C dd : Addr} {fs : List (Str × V)} {ds : List (Str × D)} : G a = some (ExF (.ref C) dd a) → G dd = some (.xd fs) → DtF K G fs ds → Dt K G (.ref a) (.exf C ds)
  | ndc {a : Addr} {ep : Nat} {kvs : List NEnt} {ds : List (NestedKey × D)} : G a = some (NDo a ep kvs) → DtN K G kvs ds → Dt K G (.ref a) (.ndc ds)
  | obj {a C dx : Addr} {fs : List (Str × V)} {ds : List (Str × D)} : G a = some (.ins C dx fs) → (ds.map (·.1)).Nodup → DtF K G fs ds → Dt K G (.ref a) (.obj C ds)
inductive DtA (K : PySem.W.Frag) (G : Hp) : List V → List D → Prop
  | nil : DtA K G [] []
  | cons {v : V} {d : D} {vs : List V} {ds : List D} : Dt K G v d → DtA K G vs ds → DtA K G (v :: vs) (d :: ds)
inductive DtK (K : PySem.W.Frag) (G : Hp) : List (Key × V) → List (Key × D) → Prop
  | nil : DtK K G [] []
  | cons {k : Key} {v : V} {d : D} {vs : List (Key × V)} {ds : List (Key × D)} : Dt K G v d → DtK K G vs ds → DtK K G ((k, v) :: vs) ((k, d) :: ds)
inductive DtF (K : PySem.W.Frag) (G : Hp) : List (Str × V) → List (Str × D) → Prop
  | nil : DtF K G [] []
  | cons {k : Str} {v : V} {d : D} {vs : List (Str × V)} {ds : List (Str × D)} : Dt K G v d → DtF K G vs ds → DtF K G ((k, v) :: vs) ((k, d) :: ds)
inductive DtN (K : PySem.W.Frag) (G : Hp) : List NEnt → List (NestedKey × D) → Prop
  | nil : DtN K G [] []
  | cons {k : NestedKey} {b : Addr} {v : V} {d : D} {vs : List NEnt} {ds : List (NestedKey × D)} : Dt K G (.ref b) (nkD k) → Dt K G v d → DtN K G vs ds → DtN K G ((k, b, v) :: vs) ((k, d) :: ds)
end
section
variable {K : PySem.W.Frag} {G G' : Hp}
mutual
theorem Dt.mono (e : Ex G G') : ∀ {v : V} {d : D}, Dt K G v d → Dt K G' v d
  | _, _, .non => .non
  | _, _, .bl b => .bl b
  | _, _, .int i => .int i
  | _, _, .str x => .str x
  | _, _, .lst h a => .lst (e _ _ h) (DtA.mono e a)
  | _, _, .scr h => .scr (e.l h)
  | _, _, .exc h => .exc (e _ _ h)
  | _, _, .exf h h2 a => .exf (e _ _ h) (e _ _ h2) (DtF.mono e a)
  | _, _, .ndc h a => .ndc (e _ _ h) (DtN.mono e a)
  | _, _, .tup h a => .tup (e.t h) (DtA.mono e a)
  | _, _, .dct h a => .dct (e.rd h) (DtK.mono e a)
  | _, _, .obj h n a => .obj (e _ _ h) n (DtF.mono e a)
theorem DtA.mono (e : Ex G G') : ∀ {v : List V} {d : List D}, DtA K G v d → DtA K G' v d
  | _, _, .nil => .nil
  | _, _, .cons h t => .cons (Dt.mono e h) (DtA.mono e t)
theorem DtK.mono (e : Ex G G') : ∀ {v : List (Key × V)} {d : List (Key × D)}, DtK K G v d → DtK K G' v d
  | _, _, .nil => .nil
  | _, _, .cons h t => .cons (Dt.mono e h) (DtK.mono e t)
theorem DtF.mono (e : Ex G G') : ∀ {v : List (Str × V)} {d : List (Str × D)}, DtF K G v d → DtF K G' v d
  | _, _, .nil => .nil
  | _, _, .cons h t => .cons (Dt.mono e h) (DtF.mono e t)
theorem DtN.mono (e : Ex G G') : ∀ {v : List NEnt} {d : List (NestedKey × D)}, DtN K G v d → DtN K G' v d
  | _, _, .nil => .nil
  | _, _, .cons h h' t => .cons (Dt.mono e h) (Dt.mono e h') (DtN.mono e t)
end
end

/-! ### owned things -/
/-- how a slot's value is held: F: nobody changes it; L m: a list of the slot's own, its items held so; K: a dict of its own; O: an instance of its own, its fields held so; P m: held as m, and the slot keeps its thing -/
inductive Md where
  | F | L (m : Md) | K | N | M (m : Md) | O (ms : List Md) | P (m : Md) | T (ms : List Md) | A (ms : List Md)
mutual
inductive R (K : PySem.W.Frag) (G H : Hp) : Md → V → D → List Addr → Prop
  | F {v : V} {d : D} : Dt K G v d → R K G H .F v d []
  | L {m : Md} {a : Addr} {xs : List V} {ds : List D} {fp : List Addr} : H a = some (.lst xs) → RA K G H m xs ds fp → R K G H (.L m) (.ref a) (.lst ds) (a :: fp)
  | K {a : Addr} {kvs : List (Key × V)} {ds : List (Key × D)} : H a = some (.dK kvs) → DtK K G kvs ds → R K G H .K (.ref a) (.dct ds) [a]
  | N {a : Addr} {ep : Nat} {kvs : List NEnt} {ds : List (NestedKey × D)} : H a = some (NDo a ep kvs) → DtN K G kvs ds → R K G H .N (.ref a) (.ndc ds) [a]
  | M {m : Md} {a : Addr} {kvs : List (Key × V)} {ds : List (Key × D)} {fp : List Addr} : H a = some (.dK kvs) → RK K G H m kvs ds fp → R K G H (.M m) (.ref a) (.dct ds) (a :: fp)
  | O {ms : List Md} {a C dx : Addr} {fs : List (Str × V)} {ds : List (Str × D)} {fp : List Addr} : H a = some (.ins C dx fs) → (ds.map (·.1)).Nodup → RF K G H ms fs ds fp → R K G H (.O ms) (.ref a) (.obj C ds) (a :: fp)
  | P {m : Md} {v : V} {d : D} {fp : List Addr} : R K G H m v d fp → R K G H (.P m) v d fp
  | T {ms : List Md} {a : Addr} {xs : List V} {ds : List D} {fp : List Addr} : G a = some (.tup xs) → RS K G H ms xs ds fp → R K G H (.T ms) (.ref a) (.tup ds) fp
  | A {ms : List Md} {a : Addr} {xs : List V} {ds : List D} {fp : List Addr} : H a = some (.lst xs) → RS K G H ms xs ds fp → R K G H (.A ms) (.ref a) (.lst ds) (a :: fp)
inductive RA (K : PySem.W.Frag) (G H : Hp) : Md → List V → List D → List Addr → Prop
  | nil {m : Md} : RA K G H m [] [] []
  | cons {m : Md} {v : V} {d : D} {vs : List V} {ds : List D} {fp fq : List Addr} : R K G H m v d fp → RA K G H m vs ds fq → RA K G H m (v :: vs) (d :: ds) (fp ++ fq)
inductive RK (K : PySem.W.Frag) (G H : Hp) : Md → List (Key × V) → List (Key × D) → List Addr → Prop
  | nil {m : Md} : RK K G H m [] [] []
  | cons {m : Md} {k : Key} {v : V} {d : D} {vs : List (Key × V)} {ds : List (Key × D)} {fp fq : List Addr} : R K G H m v d fp → RK K G H m vs ds fq → RK K G H m ((k, v) :: vs) ((k, d) :: ds) (fp ++ fq)
inductive RS (K : PySem.W.Frag) (G H : Hp) : List Md → List V → List D → List Addr → Prop
  | nil : RS K G H [] [] [] []
  | cons {m : Md} {ms : List Md} {v : V} {d : D} {vs : List V} {ds : List D} {fp fq : List Addr} : R K G H m v d fp → RS K G H ms vs ds fq → RS K G H (m :: ms) (v :: vs) (d :: ds) (fp ++ fq)
inductive RF (K : PySem.W.Frag) (G H : Hp) : List Md → List (Str × V) → List (Str × D) → List Addr → Prop
  | nil : RF K G H [] [] [] []
  | cons {m : Md} {ms : List Md} {k : Str} {v : V} {d : D} {vs : List (Str × V)} {ds : List (Str × D)} {fp fq : List Addr} : R K G H m v d fp → RF K G H ms vs ds fq → RF K G H (m :: ms) ((k, v) :: vs) ((k, d) :: ds) (fp ++ fq)
end
section
variable {K : PySem.W.Frag} {G G' H H' : Hp}
mutual
/-- what is held stands where its own addresses and the frozen part stand -/
theorem R.keep (e : Ex G G') : ∀ {m : Md} {v : V} {d : D} {fp : List Addr}, R K G H m v d fp → (∀ a ∈ fp, ∀ o, H a = some o → H' a = some o) → R K G' H' m v d fp
  | _, _, _, _, .F h, _ => .F (h.mono e)
  | _, _, _, _, .L h t, k => .L (k _ List.mem_cons_self _ h) (RA.keep e t fun a ha => k a (List.mem_cons_of_mem _ ha))
  | _, _, _, _, .K h t, k => .K (k _ List.mem_cons_self _ h) (t.mono e)
  | _, _, _, _, .N h t, k => .N (k _ List.mem_cons_self _ h) (t.mono e)
  | _, _, _, _, .M h t, k => .M (k _ List.mem_cons_self _ h) (RK.keep e t fun a ha => k a (List.mem_cons_of_mem _ ha))
  | _, _, _, _, .O h n t, k => .O (k _ List.mem_cons_self _ h) n (RF.keep e t fun a ha => k a (List.mem_cons_of_mem _ ha))
  | _, _, _, _, .P h, k => .P (R.keep e h k)
  | _, _, _, _, .T h t, k => .T (e _ _ h) (RS.keep e t k)
  | _, _, _, _, .A h t, k => .A (k _ List.mem_cons_self _ h) (RS.keep e t fun a ha => k a (List.mem_cons_of_mem _ ha))
theorem RS.keep (e : Ex G G') : ∀ {m : List Md} {v : List V} {d : List D} {fp : List Addr}, RS K G H m v d fp → (∀ a ∈ fp, ∀ o, H a = some o → H' a = some o) → RS K G' H' m v d fp
  | _, _, _, _, .nil, _ => .nil
  | _, _, _, _, .cons h t, k => .cons (R.keep e h fun a ha => k a (List.mem_append_left _ ha)) (RS.keep e t fun a ha => k a (List.mem_append_right _ ha))
theorem RA.keep (e : Ex G G') : ∀ {m : Md} {v : List V} {d : List D} {fp : List Addr}, RA K G H m v d fp → (∀ a ∈ fp, ∀ o, H a = some o → H' a = some o) → RA K G' H' m v d fp
  | _, _, _, _, .nil, _ => .nil
  | _, _, _, _, .cons h t, k => .cons (R.keep e h fun a ha => k a (List.mem_append_left _ ha)) (RA.keep e t fun a ha => k a (List.mem_append_right _ ha))
theorem RK.keep (e : Ex G G') : ∀ {m : Md} {v : List (Key × V)} {d : List (Key × D)} {fp : List Addr}, RK K G H m v d fp → (∀ a ∈ fp, ∀ o, H a = some o → H' a = some o) → RK K G' H' m v d fp
  | _, _, _, _, .nil, _ => .nil
  | _, _, _, _, .cons h t, k => .cons (R.keep e h fun a ha => k a (List.mem_append_left _ ha)) (RK.keep e t fun a ha => k a (List.mem_append_right _ ha))
theorem RF.keep (e : Ex G G') : ∀ {m : List Md} {v : List (Str × V)} {d : List (Str × D)} {fp : List Addr}, RF K G H m v d fp → (∀ a ∈ fp, ∀ o, H a = some o → H' a = some o) → RF K G' H' m v d fp
  | _, _, _, _, .nil, _ => .nil
  | _, _, _, _, .cons h t, k => .cons (R.keep e h fun a ha => k a (List.mem_append_left _ ha)) (RF.keep e t fun a ha => k a (List.mem_append_right _ ha))
end
mutual
/-- an owned address is tracked -/
theorem R.has : ∀ {m : Md} {v : V} {d : D} {fp : List Addr}, R K G H m v d fp → ∀ a ∈ fp, H a ≠ none
  | _, _, _, _, .F _, _, h => nomatch h
  | _, _, _, _, .L h t, a, ha => by
    rcases List.mem_cons.mp ha with rfl | ha
    · rw [h]; exact fun z => nomatch z
    · exact RA.has t a ha
  | _, _, _, _, .K h t, a, ha => by
    rcases List.mem_cons.mp ha with rfl | ha
    · rw [h]; exact fun z => nomatch z
    · exact nomatch ha
  | _, _, _, _, .N h t, a, ha => by
    rcases List.mem_cons.mp ha with rfl | ha
    · rw [h]; exact fun z => nomatch z
    · exact nomatch ha
  | _, _, _, _, .M h t, a, ha => by
    rcases List.mem_cons.mp ha with rfl | ha
    · rw [h]; exact fun z => nomatch z
    · exact RK.has t a ha
  | _, _, _, _, .O h n t, a, ha => by
    rcases List.mem_cons.mp ha with rfl | ha
    · rw [h]; exact fun z => nomatch z
    · exact RF.has t a ha
  | _, _, _, _, .P h, a, ha => R.has h a ha
  | _, _, _, _, .T _ t, a, ha => RS.has t a ha
  | _, _, _, _, .A h t, a, ha => by
    rcases List.mem_cons.mp ha with rfl | ha
    · rw [h]; exact fun z => nomatch z
    · exact RS.has t a ha
theorem RS.has : ∀ {m : List Md} {v : List V} {d : List D} {fp : List Addr}, RS K G H m v d fp → ∀ a ∈ fp, H a ≠ none
  | _, _, _, _, .nil, _, h => nomatch h
  | _, _, _, _, .cons h t, a, ha => (List.mem_append.mp ha).elim (R.has h a) (RS.has t a)
theorem RA.has : ∀ {m : Md} {v : List V} {d : List D} {fp : List Addr}, RA K G H m v d fp → ∀ a ∈ fp, H a ≠ none
  | _, _, _, _, .nil, _, h => nomatch h
  | _, _, _, _, .cons h t, a, ha => (List.mem_append.mp ha).elim (R.has h a) (RA.has t a)
theorem RK.has : ∀ {m : Md} {v : List (Key × V)} {d : List (Key × D)} {fp : List Addr}, RK K G H m v d fp → ∀ a ∈ fp, H a ≠ none
  | _, _, _, _, .nil, _, h => nomatch h
  | _, _, _, _, .cons h t, a, ha => (List.mem_append.mp ha).elim (R.has h a) (RK.has t a)
theorem RF.has : ∀ {m : List Md} {v : List (Str × V)} {d : List (Str × D)} {fp : List Addr}, RF K G H m v d fp → ∀ a ∈ fp, H a ≠ none
  | _, _, _, _, .nil, _, h => nomatch h
  | _, _, _, _, .cons h t, a, ha => (List.mem_append.mp ha).elim (R.has h a) (RF.has t a)
end
mutual
/-- what is held may be read as plain data of any heap that holds both -/
theorem R.dt (e : Ex G G') : ∀ {m : Md} {v : V} {d : D} {fp : List Addr}, R K G H m v d fp → (∀ a ∈ fp, ∀ o, H a = some o → G' a = some o) → Dt K G' v d
  | _, _, _, _, .F h, _ => h.mono e
  | _, _, _, _, .L h t, k => .lst (k _ List.mem_cons_self _ h) (RA.dt e t fun a ha => k a (List.mem_cons_of_mem _ ha))
  | _, _, _, _, .K h t, k => .dct (.inl (k _ List.mem_cons_self _ h)) (t.mono e)
  | _, _, _, _, .N h t, k => .ndc (k _ List.mem_cons_self _ h) (t.mono e)
  | _, _, _, _, .M h t, k => .dct (.inl (k _ List.mem_cons_self _ h)) (RK.dt e t fun a ha => k a (List.mem_cons_of_mem _ ha))
  | _, _, _, _, .O h n t, k => .obj (k _ List.mem_cons_self _ h) n (RF.dt e t fun a ha => k a (List.mem_cons_of_mem _ ha))
  | _, _, _, _, .P h, k => R.dt e h k
  | _, _, _, _, .T h t, k => .tup (.inl (.inl (e _ _ h))) (RS.dt e t k)
  | _, _, _, _, .A h t, k => .lst (k _ List.mem_cons_self _ h) (RS.dt e t fun a ha => k a (List.mem_cons_of_mem _ ha))
theorem RS.dt (e : Ex G G') : ∀ {m : List Md} {v : List V} {d : List D} {fp : List Addr}, RS K G H m v d fp → (∀ a ∈ fp, ∀ o, H a = some o → G' a = some o) → DtA K G' v d
  | _, _, _, _, .nil, _ => .nil
  | _, _, _, _, .cons h t, k => .cons (R.dt e h fun a ha => k a (List.mem_append_left _ ha)) (RS.dt e t fun a ha => k a (List.mem_append_right _ ha))
theorem RA.dt (e : Ex G G') : ∀ {m : Md} {v : List V} {d : List D} {fp : List Addr}, RA K G H m v d fp → (∀ a ∈ fp, ∀ o, H a = some o → G' a = some o) → DtA K G' v d
  | _, _, _, _, .nil, _ => .nil
  | _, _, _, _, .cons h t, k => .cons (R.dt e h fun a ha => k a (List.mem_append_left _ ha)) (RA.dt e t fun a ha => k a (List.mem_append_right _ ha))
theorem RK.dt (e : Ex G G') : ∀ {m : Md} {v : List (Key × V)} {d : List (Key × D)} {fp : List Addr}, RK K G H m v d fp → (∀ a ∈ fp, ∀ o, H a = some o → G' a = some o) → DtK K G' v d
  | _, _, _, _, .nil, _ => .nil
  | _, _, _, _, .cons h t, k => .cons (R.dt e h fun a ha => k a (List.mem_append_left _ ha)) (RK.dt e t fun a ha => k a (List.mem_append_right _ ha))
theorem RF.dt (e : Ex G G') : ∀ {m : List Md} {v : List (Str × V)} {d : List (Str × D)} {fp : List Addr}, RF K G H m v d fp → (∀ a ∈ fp, ∀ o, H a = some o → G' a = some o) → DtF K G' v d
  | _, _, _, _, .nil, _ => .nil
  | _, _, _, _, .cons h t, k => .cons (R.dt e h fun a ha => k a (List.mem_append_left _ ha)) (RF.dt e t fun a ha => k a (List.mem_append_right _ ha))
end
end

/-! ### the state -/
abbrev Rho := List (Option (Md × D))
abbrev Own := Nat → List Addr
def Ow (f : Own) (a : Addr) : Prop := ∃ i, a ∈ f i
def Own.set (f : Own) (i : Nat) (l : List Addr) : Own := fun j => if j = i then l else f j
theorem Own.set_same {f : Own} {i : Nat} {l : List Addr} : f.set i l i = l := if_pos rfl
theorem Own.set_ne {f : Own} {i j : Nat} {l : List Addr} (h : j ≠ i) : f.set i l j = f j := if_neg h
/-- the slots σ of the heap H are the data ρ, G the frozen part, f the owned addresses -/
structure Sx (K : PySem.W.Frag) (pin : Nat → Option V) (G H : Hp) (σ : L2.St) (ρ : Rho) (f : Own) : Prop where
  ext : Ex G H
  len : ρ.length = σ.length
  slot : ∀ i m d, ρ[i]? = some (some (m, d)) → ∃ v, σ[i]? = some (some v) ∧ R K G H m v d (f i)
  emp : ∀ i, (∀ m d, ρ[i]? ≠ some (some (m, d))) → f i = []
  nd : ∀ i, (f i).Nodup
  dj : ∀ i j a, a ∈ f i → a ∈ f j → i = j
  out : ∀ i, ∀ a ∈ f i, G a = none
  pins : ∀ i m d, ρ[i]? = some (some (.P m, d)) → ∃ v, pin i = some v ∧ σ[i]? = some (some v)
/-- from one state to a later one -/
structure Stp (G H : Hp) (f : Own) (G' H' : Hp) (f' : Own) : Prop where
  gext : Ex G G'
  keep : ∀ a o, H a = some o → ¬ Ow f a → H' a = some o
  gold : ∀ a, H a ≠ none → ¬ Ow f a → G' a = G a
  fnew : ∀ a, Ow f' a → Ow f a ∨ H a = none
  trk : ∀ a, H a ≠ none → H' a ≠ none
theorem Stp.refl (G H : Hp) (f : Own) : Stp G H f G H f := ⟨Ex.refl _, fun _ _ h _ => h, fun _ _ _ => rfl, fun _ h => .inl h, fun _ h => h⟩
theorem Stp.trans {G H G1 H1 G2 H2 : Hp} {f f1 f2 : Own} (a : Stp G H f G1 H1 f1) (b : Stp G1 H1 f1 G2 H2 f2) : Stp G H f G2 H2 f2 := by
  have n1 : ∀ x, H x ≠ none → ¬ Ow f x → ¬ Ow f1 x := fun x hx hf h1 => by
    rcases a.fnew x h1 with h | h
    · exact hf h
    · exact hx h
  refine ⟨a.gext.trans b.gext, fun x o h hf => ?_, fun x h hf => ?_, fun x h => ?_, fun x h => b.trk x (a.trk x h)⟩
  · exact b.keep x o (a.keep x o h hf) (n1 x (by rw [h]; exact fun z => nomatch z) hf)
  · cases e : H x with
    | none => exact absurd e h
    | some o =>
      have e1 := a.keep x o e hf
      rw [b.gold x (by rw [e1]; exact fun z => nomatch z) (n1 x h hf), a.gold x h hf]
  · rcases b.fnew x h with h1 | h1
    · exact a.fnew x h1
    · by_cases hf : Ow f x
      · exact .inl hf
      · refine .inr ?_
        cases e : H x with
        | none => rfl
        | some o => rw [a.keep x o e hf] at h1; cases h1
/-! ### paths within owned things -/
/-- the value reached by a path: items of lists, fields of instances -/
inductive Rch (H : Hp) : V → List Nat → V → Prop
  | here {v : V} : Rch H v [] v
  | lst {a : Addr} {xs : List V} {j : Nat} {x v : V} {p : List Nat} : H a = some (.lst xs) → xs[j]? = some x → Rch H x p v → Rch H (.ref a) (j :: p) v
  | ins {a C dx : Addr} {fs : List (Str × V)} {j : Nat} {k : Str} {x v : V} {p : List Nat} : H a = some (.ins C dx fs) → fs[j]? = some (k, x) → Rch H x p v → Rch H (.ref a) (j :: p) v
  | tup {a : Addr} {xs : List V} {j : Nat} {x v : V} {p : List Nat} : H a = some (.tup xs) → xs[j]? = some x → Rch H x p v → Rch H (.ref a) (j :: p) v
  | dK {a : Addr} {kvs : List (Key × V)} {j : Nat} {k : Key} {x v : V} {p : List Nat} : H a = some (.dK kvs) → kvs[j]? = some (k, x) → Rch H x p v → Rch H (.ref a) (j :: p) v
def mKid : Md → Nat → Option Md
  | .L m, _ => some m
  | .M m, _ => some m
  | .O ms, j => ms[j]?
  | .T ms, j => ms[j]?
  | .A ms, j => ms[j]?
  | _, _ => none
def Md.st : Md → Md
  | .P m => m.st
  | m => m
def mAt : Md → List Nat → Option Md
  | m, [] => some m
  | m, j :: p => match mKid m j with
    | some m' => mAt m' p
    | none => none
def dKid : D → Nat → Option D
  | .lst ds, j => ds[j]?
  | .tup ds, j => ds[j]?
  | .obj _ fs, j => match fs[j]? with
    | some x => some x.2
    | none => none
  | .dct fs, j => match fs[j]? with
    | some x => some x.2
    | none => none
  | _, _ => none
def dAt : D → List Nat → Option D
  | d, [] => some d
  | d, j :: p => match dKid d j with
    | some d' => dAt d' p
    | none => none
def setKid : D → Nat → D → D
  | .lst ds, j, x => .lst (ds.set j x)
  | .tup ds, j, x => .tup (ds.set j x)
  | .obj C fs, j, x => .obj C (fs.modify j fun y => (y.1, x))
  | .dct fs, j, x => .dct (fs.modify j fun y => (y.1, x))
  | d, _, _ => d
def dSet : D → List Nat → D → D
  | _, [], x => x
  | d, j :: p, x => match dKid d j with
    | some d' => setKid d j (dSet d' p x)
    | none => d
/-- what an expression's value is: fz: frozen; bor i p m: what slot i holds at p; new m: nobody else's -/
inductive Kd where
  | fz | bor (i : Nat) (p : List Nat) (m : Md) | new (m : Md)
/-- a state -/
structure Sta where
  pin : Nat → Option V
  G : Hp
  H : Hp
  σ : L2.St
  ρ : Rho
  f : Own
abbrev Sta.ok (K : PySem.W.Frag) (S : Sta) : Prop := Sx K S.pin S.G S.H S.σ S.ρ S.f
structure Sta.to (S T : Sta) : Prop where
  stp : Stp S.G S.H S.f T.G T.H T.f
  pin : T.pin = S.pin
/-- new since S0, or owned there -/
def Nw (S0 : Sta) (a : Addr) : Prop := Ow S0.f a ∨ S0.H a = none
def Has (K : PySem.W.Frag) (S0 S : Sta) : Kd → V → D → Prop
  | .fz, v, d => Dt K S.G v d
  | .bor i p m, v, d => ∃ m0 d0 v0, S.ρ[i]? = some (some (m0, d0)) ∧ S.σ[i]? = some (some v0) ∧ Rch S.H v0 p v ∧ mAt m0.st p = some m ∧ dAt d0 p = some d
  | .new m, v, d => ∃ fp, R K S.G S.H m v d fp ∧ fp.Nodup ∧ ∀ a ∈ fp, S.G a = none ∧ ¬ Ow S.f a ∧ Nw S0 a
inductive HasA (K : PySem.W.Frag) (S0 S : Sta) : List V → List (Kd × D) → Prop
  | nil : HasA K S0 S [] []
  | cons {v : V} {kd : Kd} {d : D} {vs : List V} {ds : List (Kd × D)} : Has K S0 S kd v d → HasA K S0 S vs ds → HasA K S0 S (v :: vs) ((kd, d) :: ds)
/-- what is wanted behind -/
structure Po (α : Type) where
  ok : List Nat → α → Rho → Prop
  ex : Addr → List (Str × D) → Rho → Prop
/-- an exception's dict -/
def XD (K : PySem.W.Frag) (G H : Hp) (dd : Option Addr) (fl : List (Str × D)) : Prop :=
  (fl = [] ∧ dd = none) ∨ ∃ a fs, fl ≠ [] ∧ dd = some a ∧ G a = some (.xd fs) ∧ DtF K G fs fl
abbrev DE (α : Type) := Rho → Po α → Prop
abbrev Rl (τ α : Type) := PySem.W.Frag → Sta → Sta → τ → α → Prop
/-- the slots but those at p are as they were -/
def Tch (p : List Nat) (S T : Sta) : Prop := ∀ i, i ∉ p → T.ρ[i]? = S.ρ[i]? ∧ T.f i = S.f i ∧ ∀ a ∈ S.f i, ∀ o, S.H a = some o → T.H a = some o
/-- a reading by data -/
def tgen {τ α : Type} (L : Rl τ α) (K : PySem.W.Frag) (W : WX) (w : DE α) : L2.St → Hp → (τ → Hp → Prop) → Prop := fun σ H Q =>
  ∃ (S : Sta) (P : Po α), S.σ = σ ∧ S.H = H ∧ S.ok K ∧ w S.ρ P ∧
    (∀ p x (T : Sta), P.ok p x T.ρ → T.σ = σ → T.ok K → S.to T → Tch p S T → ∀ v : τ, L K S T v x → Q v T.H) ∧
    (∀ C fl (T : Sta), P.ex C fl T.ρ → T.σ = σ → T.ok K → S.to T → ∀ dd : Option Addr, XD K T.G T.H dd fl → W (.ref C) dd σ T.H)
abbrev lE : Rl V (Kd × D) := fun K S0 S v x => Has K S0 S x.1 v x.2
abbrev lT : Rl Bool Bool := fun _ _ _ b c => b = c
abbrev lA : Rl (List V) (List (Kd × D)) := fun K S0 S vs xs => HasA K S0 S vs xs
abbrev lO : Rl (Option Int) (Option Int) := fun _ _ _ b c => b = c
abbrev te : PySem.W.Frag → WX → DE (Kd × D) → TE := tgen lE
abbrev tt : PySem.W.Frag → WX → DE Bool → TT := tgen lT
abbrev ta : PySem.W.Frag → WX → DE (List (Kd × D)) → TA := tgen lA
abbrev tO : PySem.W.Frag → WX → DE (Option Int) → TO := tgen lO
/-- what is wanted behind a statement -/
structure En where
  nx : Rho → Prop
  rt : Kd × D → Rho → Prop
  bk : Rho → Prop
  ct : Rho → Prop
  ex : Addr → List (Str × D) → Rho → Prop
abbrev DS := En → Rho → Prop
/-- the wishes E lead to the ends D -/
structure Lead (K : PySem.W.Frag) (W : WX) (S : Sta) (E : En) (D : Ends) : Prop where
  nx : ∀ T : Sta, E.nx T.ρ → T.ok K → S.to T → D.nx T.σ T.H
  bk : ∀ T : Sta, E.bk T.ρ → T.ok K → S.to T → D.bk T.σ T.H
  ct : ∀ T : Sta, E.ct T.ρ → T.ok K → S.to T → D.ct T.σ T.H
  rt : ∀ x (T : Sta), E.rt x T.ρ → T.ok K → S.to T → ∀ v : V, Has K S T x.1 v x.2 → D.rt v T.H
  ex : ∀ C fl (T : Sta), E.ex C fl T.ρ → T.ok K → S.to T → ∀ dd : Option Addr, XD K T.G T.H dd fl → W (.ref C) dd T.σ T.H
def ts (K : PySem.W.Frag) (W : WX) (w : DS) : TS := fun D σ H =>
  ∃ (S : Sta) (E : En), S.σ = σ ∧ S.H = H ∧ S.ok K ∧ w E S.ρ ∧ Lead K W S E D
end VL

namespace VL
open PySem PySem.Spec PyProof.Rows L2
section
variable {K : PySem.W.Frag} {W : WX} {G G' H H' H0 : Hp} {σ : L2.St} {ρ : Rho} {f f' : Own} {P : Program} {w : World} {X : Cx} {S S0 S1 T T1 T2 : Sta}

theorem PE.imp {e : Expr} {t t' : TE} (h : PE X e t) (k : ∀ σ H Q, t' σ H Q → t σ H Q) : PE X e t' := ⟨fun pins s σ H Q I q => h.run pins s σ H Q I (k σ H Q q)⟩
theorem PT.imp {e : Expr} {t t' : TT} (h : PT X e t) (k : ∀ σ H Q, t' σ H Q → t σ H Q) : PT X e t' := ⟨fun pins s σ H Q I q => h.run pins s σ H Q I (k σ H Q q)⟩
theorem PW.imp {e : Expr} {t t' : TT} (h : PW X e t) (k : ∀ σ H Q, t' σ H Q → t σ H Q) : PW X e t' := ⟨fun wh pins s σ H Q I q => h.run wh pins s σ H Q I (k σ H Q q)⟩
theorem PA.imp {e : List Expr} {t t' : TA} (h : PA X e t) (k : ∀ σ H Q, t' σ H Q → t σ H Q) : PA X e t' := ⟨fun pos pins s σ H Q I q => h.run pos pins s σ H Q I (k σ H Q q)⟩
theorem PS.imp {e : Stmt} {t t' : TS} (h : PS X e t) (k : ∀ D σ H, t' D σ H → t D σ H) : PS X e t' := ⟨fun pins s σ H D I q => h.run pins s σ H D I (k D σ H q)⟩
theorem PSs.imp {e : List Stmt} {t t' : TS} (h : PSs X e t) (k : ∀ D σ H, t' D σ H → t D σ H) : PSs X e t' := ⟨fun pins s σ H D I q => h.run pins s σ H D I (k D σ H q)⟩
theorem PO.imp {e : Option Expr} {t t' : TO} (h : PO X e t) (k : ∀ σ H Q, t' σ H Q → t σ H Q) : PO X e t' := ⟨fun pins s σ H Q I q => h.run pins s σ H Q I (k σ H Q q)⟩

theorem Sta.refl (S : Sta) : S.to S := ⟨Stp.refl _ _ _, rfl⟩
theorem Sta.to.trans (a : S.to S1) (b : S1.to T) : S.to T := ⟨a.stp.trans b.stp, b.pin.trans a.pin⟩
theorem Tch.refl (S : Sta) (p : List Nat) : Tch p S S := fun _ _ => ⟨rfl, rfl, fun _ _ _ h => h⟩
theorem Tch.trans {p q : List Nat} (a : Tch p S S1) (b : Tch q S1 T) : Tch (p ++ q) S T := fun i hi => by
  obtain ⟨a1, a2, a3⟩ := a i fun h => hi (List.mem_append_left _ h)
  obtain ⟨b1, b2, b3⟩ := b i fun h => hi (List.mem_append_right _ h)
  exact ⟨b1.trans a1, b2.trans a2, fun x hx o ho => b3 x (by rw [a2]; exact hx) o (a3 x hx o ho)⟩
theorem Tch.add {p : List Nat} (a : Tch p S S1) (b : Tch [] S1 T) : Tch p S T := by
  have h := a.trans b
  rw [List.append_nil] at h
  exact h
/-- the heap grows by new things alone -/
structure Grow (G H G' H' : Hp) : Prop where
  gext : Ex G G'
  hext : Ex H H'
  sub : Ex G' H'
  gold : ∀ a, H a ≠ none → G' a = G a
theorem Grow.refl (e : Ex G H) : Grow G H G H := ⟨Ex.refl _, Ex.refl _, e, fun _ _ => rfl⟩
theorem Grow.trans {G1 H1 G2 H2 : Hp} (a : Grow G H G1 H1) (b : Grow G1 H1 G2 H2) : Grow G H G2 H2 := ⟨a.gext.trans b.gext, a.hext.trans b.hext, b.sub, fun x h => by
  cases e : H x with
  | none => exact absurd e h
  | some o => rw [b.gold x (by rw [a.hext x o e]; exact fun z => nomatch z), a.gold x h]⟩
theorem Ex.trk (e : Ex H H') {a : Addr} (h : H a ≠ none) : H' a ≠ none := by
  cases q : H a with
  | none => exact absurd q h
  | some o => rw [e a o q]; exact fun z => nomatch z
/-- a new thing that nobody changes -/
theorem Grow.new {p : Addr} {o : HO} (e : Ex G H) (h : H p = none) : Grow G H (upd G p o) (upd H p o) where
  gext := Ex.new (e.free h)
  hext := Ex.new h
  sub := fun a u q => by
    by_cases c : a = p
    · subst c; rw [upd_same] at q ⊢; exact q
    · rw [upd_ne c] at q ⊢; exact e a u q
  gold := fun a q => upd_ne fun c => q (c ▸ h)
/-- a new thing of one's own -/
theorem Grow.own {p : Addr} {o : HO} (e : Ex G H) (h : H p = none) : Grow G H G (upd H p o) := ⟨Ex.refl _, Ex.new h, e.trans (Ex.new h), fun _ _ => rfl⟩
variable {pin : Nat → Option V}
theorem Sx.own (S : Sx K pin G H σ ρ f) {a : Addr} (h : Ow f a) : H a ≠ none := by
  obtain ⟨i, hi⟩ := h
  cases e : ρ[i]? with
  | none => rw [S.emp i (by rw [e]; exact fun _ _ z => nomatch z)] at hi; cases hi
  | some x =>
    cases x with
    | none => rw [S.emp i (by rw [e]; exact fun _ _ z => nomatch z)] at hi; cases hi
    | some md =>
      obtain ⟨v, _, r⟩ := S.slot i md.1 md.2 e
      exact r.has a hi
theorem Sx.outO (S : Sx K pin G H σ ρ f) {a : Addr} (h : Ow f a) : G a = none := by
  obtain ⟨i, hi⟩ := h
  exact S.out i a hi
/-- the state over other heaps -/
def Sta.at (S : Sta) (G H : Hp) : Sta := { S with G := G, H := H }
theorem Sx.grow (S : Sx K pin G H σ ρ f) (g : Grow G H G' H') : Sx K pin G' H' σ ρ f where
  pins := S.pins
  ext := g.sub
  len := S.len
  slot := fun i m d e => by
    obtain ⟨v, h1, r⟩ := S.slot i m d e
    exact ⟨v, h1, r.keep g.gext fun a _ o h => g.hext a o h⟩
  emp := S.emp
  nd := S.nd
  dj := S.dj
  out := fun i a h => by
    rw [g.gold a (S.own ⟨i, h⟩)]
    exact S.out i a h
theorem Grow.stp (g : Grow G H G' H') : Stp G H f G' H' f := ⟨g.gext, fun a o h _ => g.hext a o h, fun a h _ => g.gold a h, fun _ h => .inl h, fun _ h => g.hext.trk h⟩
theorem Grow.to (g : Grow S.G S.H G' H') : S.to (S.at G' H') := ⟨g.stp, rfl⟩
theorem Grow.tch (g : Grow S.G S.H G' H') : Tch [] S (S.at G' H') := fun _ _ => ⟨rfl, rfl, fun a _ o h => g.hext a o h⟩
theorem Sta.grow (ok : S.ok K) (g : Grow S.G S.H G' H') : (S.at G' H').ok K := Sx.grow ok g
theorem Rch.mono (e : Ex H H') : ∀ {v : V} {p : List Nat} {v' : V}, Rch H v p v' → Rch H' v p v'
  | _, _, _, .here => .here
  | _, _, _, .lst h i t => .lst (e _ _ h) i (Rch.mono e t)
  | _, _, _, .ins h i t => .ins (e _ _ h) i (Rch.mono e t)
  | _, _, _, .tup h i t => .tup (e _ _ h) i (Rch.mono e t)
  | _, _, _, .dK h i t => .dK (e _ _ h) i (Rch.mono e t)

/-- a value keeps its kind through a later step -/
def hold : Kd → List Nat → Bool
  | .bor i _ _, p => !p.contains i
  | _, _ => true
theorem RA.get {m : Md} : ∀ {xs : List V} {ds : List D} {fp : List Addr} {j : Nat} {x : V} {d : D}, RA K G H m xs ds fp → xs[j]? = some x → ds[j]? = some d → ∃ fq, R K G H m x d fq ∧ ∀ a ∈ fq, a ∈ fp
  | _, _, _, _, _, _, .nil, h, _ => by simp at h
  | _, _, _, 0, _, _, .cons r t, h, h' => by
    simp at h h'; subst h; subst h'
    exact ⟨_, r, fun a ha => List.mem_append_left _ ha⟩
  | _, _, _, j + 1, _, _, .cons r t, h, h' => by
    obtain ⟨fq, r', k⟩ := RA.get t (j := j) (by simpa using h) (by simpa using h')
    exact ⟨fq, r', fun a ha => List.mem_append_right _ (k a ha)⟩
theorem RS.get : ∀ {ms : List Md} {xs : List V} {ds : List D} {fp : List Addr} {j : Nat} {m : Md} {x : V} {d : D}, RS K G H ms xs ds fp → ms[j]? = some m → xs[j]? = some x → ds[j]? = some d → ∃ fq, R K G H m x d fq ∧ ∀ a ∈ fq, a ∈ fp
  | _, _, _, _, _, _, _, _, .nil, h, _, _ => by simp at h
  | _, _, _, _, 0, _, _, _, .cons r t, h0, h, h' => by
    simp at h0 h h'
    subst h0; subst h; subst h'
    exact ⟨_, r, fun a ha => List.mem_append_left _ ha⟩
  | _, _, _, _, j + 1, _, _, _, .cons r t, h0, h, h' => by
    obtain ⟨fq, r', k⟩ := RS.get t (j := j) (by simpa using h0) (by simpa using h) (by simpa using h')
    exact ⟨fq, r', fun a ha => List.mem_append_right _ (k a ha)⟩
theorem RK.get {m : Md} : ∀ {xs : List (Key × V)} {ds : List (Key × D)} {fp : List Addr} {j : Nat} {k k' : Key} {x : V} {d : D}, RK K G H m xs ds fp → xs[j]? = some (k, x) → ds[j]? = some (k', d) → k = k' ∧ ∃ fq, R K G H m x d fq ∧ ∀ a ∈ fq, a ∈ fp
  | _, _, _, _, _, _, _, _, .nil, h, _ => by simp at h
  | _, _, _, 0, _, _, _, _, .cons r t, h, h' => by
    simp at h h'
    obtain ⟨rfl, rfl⟩ := h
    obtain ⟨rfl, rfl⟩ := h'
    exact ⟨rfl, _, r, fun a ha => List.mem_append_left _ ha⟩
  | _, _, _, j + 1, _, _, _, _, .cons r t, h, h' => by
    obtain ⟨e, fq, r', k⟩ := RK.get t (j := j) (by simpa using h) (by simpa using h')
    exact ⟨e, fq, r', fun a ha => List.mem_append_right _ (k a ha)⟩
theorem RF.get : ∀ {ms : List Md} {xs : List (Str × V)} {ds : List (Str × D)} {fp : List Addr} {j : Nat} {m : Md} {k k' : Str} {x : V} {d : D}, RF K G H ms xs ds fp → ms[j]? = some m → xs[j]? = some (k, x) → ds[j]? = some (k', d) → k = k' ∧ ∃ fq, R K G H m x d fq ∧ ∀ a ∈ fq, a ∈ fp
  | _, _, _, _, _, _, _, _, _, _, .nil, h, _, _ => by simp at h
  | _, _, _, _, 0, _, _, _, _, _, .cons r t, h0, h, h' => by
    simp at h0 h h'
    obtain ⟨rfl, rfl⟩ := h
    obtain ⟨rfl, rfl⟩ := h'
    subst h0
    exact ⟨rfl, _, r, fun a ha => List.mem_append_left _ ha⟩
  | _, _, _, _, j + 1, _, _, _, _, _, .cons r t, h0, h, h' => by
    obtain ⟨e, fq, r', k⟩ := RF.get t (j := j) (by simpa using h0) (by simpa using h) (by simpa using h')
    exact ⟨e, fq, r', fun a ha => List.mem_append_right _ (k a ha)⟩
theorem R.strip : ∀ {m : Md} {v : V} {d : D} {fp : List Addr}, R K G H m v d fp → R K G H m.st v d fp
  | .F, _, _, _, h => h
  | .L _, _, _, _, h => h
  | .K, _, _, _, h => h
  | .N, _, _, _, h => h
  | .M _, _, _, _, h => h
  | .O _, _, _, _, h => h
  | .T _, _, _, _, h => h
  | .A _, _, _, _, h => h
  | .P m, _, _, _, h => by
    cases h with
    | P h => exact R.strip (m := m) h
/-- what a path leads to is held so, and stays where the slot's things stay -/
theorem R.reach : ∀ (xt : Ex G H) {p : List Nat} {m0 m : Md} {v0 v : V} {d0 d : D} {fp : List Addr}, R K G H m0 v0 d0 fp → Rch H v0 p v → mAt m0 p = some m → dAt d0 p = some d →
    (∃ fq, R K G H m v d fq ∧ ∀ a ∈ fq, a ∈ fp) ∧ ∀ H' : Hp, (∀ a ∈ fp, ∀ o, H a = some o → H' a = some o) → Ex G H' → Rch H' v0 p v
  | xt, [], _, _, _, _, _, _, _, r, c, e1, e2 => by
    cases c
    cases e1; cases e2
    exact ⟨⟨_, r, fun _ h => h⟩, fun _ _ _ => .here⟩
  | xt, j :: p, m0, m, v0, v, d0, d, fp, r, c, e1, e2 => by
    cases c with
    | lst h i t =>
      cases r with
      | F h => simp [mAt, mKid] at e1
      | P h => simp [mAt, mKid] at e1
      | K h t => rename_i h' _ _ _; rw [h] at h'; cases h'
      | N h' t' => rw [h] at h'; cases h'
      | M h' t' => rw [h] at h'; cases h'
      | O h' n' t' => rw [h] at h'; cases h'
      | T h' t' => have h' := xt _ _ h'; rw [h] at h'; cases h'
      | A h' t' =>
        rw [h] at h'; cases h'
        simp only [mAt, mKid] at e1
        simp only [dAt, dKid] at e2
        split at e1
        · rename_i m1 em
          split at e2
          · rename_i d1 ed
            obtain ⟨fq, r1, k1⟩ := RS.get t' em i ed
            obtain ⟨⟨fr, r2, k2⟩, k3⟩ := R.reach xt r1 t e1 e2
            exact ⟨⟨fr, r2, fun a ha => List.mem_cons_of_mem _ (k1 a (k2 a ha))⟩, fun H' k x => .lst (k _ List.mem_cons_self _ h) i (k3 H' (fun a ha => k a (List.mem_cons_of_mem _ (k1 a ha))) x)⟩
          · cases e2
        · cases e1
      | L h' t' =>
        rw [h] at h'; cases h'
        simp only [mAt, mKid] at e1
        simp only [dAt, dKid] at e2
        split at e2
        · rename_i d1 ed
          obtain ⟨fq, r1, k1⟩ := RA.get t' i ed
          obtain ⟨⟨fr, r2, k2⟩, k3⟩ := R.reach xt r1 t e1 e2
          exact ⟨⟨fr, r2, fun a ha => List.mem_cons_of_mem _ (k1 a (k2 a ha))⟩, fun H' k x => .lst (k _ List.mem_cons_self _ h) i (k3 H' (fun a ha => k a (List.mem_cons_of_mem _ (k1 a ha))) x)⟩
        · cases e2
    | ins h i t =>
      cases r with
      | F h => simp [mAt, mKid] at e1
      | P h => simp [mAt, mKid] at e1
      | K h t => rename_i h' _ _ _; rw [h] at h'; cases h'
      | N h' t' => rw [h] at h'; cases h'
      | M h' t' => rw [h] at h'; cases h'
      | L h' t' => rw [h] at h'; cases h'
      | T h' t' => have h' := xt _ _ h'; rw [h] at h'; cases h'
      | A h' t' => rw [h] at h'; cases h'
      | O h' n' t' =>
        rw [h] at h'; cases h'
        simp only [mAt, mKid] at e1
        simp only [dAt, dKid] at e2
        split at e1
        · rename_i m1 em
          split at e2
          · rename_i d1 ed
            split at ed
            · rename_i y ey
              cases ed
              obtain ⟨_, fq, r1, k1⟩ := RF.get t' em i ey
              obtain ⟨⟨fr, r2, k2⟩, k3⟩ := R.reach xt r1 t e1 e2
              exact ⟨⟨fr, r2, fun a ha => List.mem_cons_of_mem _ (k1 a (k2 a ha))⟩, fun H' k x => .ins (k _ List.mem_cons_self _ h) i (k3 H' (fun a ha => k a (List.mem_cons_of_mem _ (k1 a ha))) x)⟩
            · cases ed
          · cases e2
        · cases e1
    | dK h i t =>
      cases r with
      | F h => simp [mAt, mKid] at e1
      | P h => simp [mAt, mKid] at e1
      | K h t => simp [mAt, mKid] at e1
      | N h t => simp [mAt, mKid] at e1
      | L h' t' => rw [h] at h'; cases h'
      | O h' n' t' => rw [h] at h'; cases h'
      | T h' t' => have h' := xt _ _ h'; rw [h] at h'; cases h'
      | A h' t' => rw [h] at h'; cases h'
      | M h' t' =>
        rw [h] at h'; cases h'
        simp only [mAt, mKid] at e1
        simp only [dAt, dKid] at e2
        split at e2
        · rename_i d1 ed
          split at ed
          · rename_i y ey
            cases ed
            obtain ⟨_, fq, r1, k1⟩ := RK.get t' i ey
            obtain ⟨⟨fr, r2, k2⟩, k3⟩ := R.reach xt r1 t e1 e2
            exact ⟨⟨fr, r2, fun a ha => List.mem_cons_of_mem _ (k1 a (k2 a ha))⟩, fun H' k x => .dK (k _ List.mem_cons_self _ h) i (k3 H' (fun a ha => k a (List.mem_cons_of_mem _ (k1 a ha))) x)⟩
          · cases ed
        · cases e2
    | tup h i t =>
      cases r with
      | F h => simp [mAt, mKid] at e1
      | P h => simp [mAt, mKid] at e1
      | K h t => rename_i h' _ _ _; rw [h] at h'; cases h'
      | N h' t' => rw [h] at h'; cases h'
      | M h' t' => rw [h] at h'; cases h'
      | L h' t' => rw [h] at h'; cases h'
      | O h' n' t' => rw [h] at h'; cases h'
      | A h' t' => rw [h] at h'; cases h'
      | T h' t' =>
        have hx := xt _ _ h'
        rw [h] at hx; cases hx
        simp only [mAt, mKid] at e1
        simp only [dAt, dKid] at e2
        split at e1
        · rename_i m1 em
          split at e2
          · rename_i d1 ed
            obtain ⟨fq, r1, k1⟩ := RS.get t' em i ed
            obtain ⟨⟨fr, r2, k2⟩, k3⟩ := R.reach xt r1 t e1 e2
            exact ⟨⟨fr, r2, fun a ha => k1 a (k2 a ha)⟩, fun H' k x => .tup (x _ _ h') i (k3 H' (fun a ha => k a (k1 a ha)) x)⟩
          · cases e2
        · cases e1
theorem Has.stp {kd : Kd} {v : V} {d : D} {p : List Nat} (h : Has K S0 S kd v d) (ok : S.ok K) (s : S.to T) (hs : T.σ = S.σ) (pr : Tch p S T) (hh : hold kd p = true) : Has K S0 T kd v d := by
  cases kd with
  | fz => exact Dt.mono s.stp.gext h
  | bor i q m =>
    obtain ⟨m0, d0, v0, h1, h2, h3, h4, h5⟩ := h
    have hi : i ∉ p := by simpa [hold] using hh
    obtain ⟨e1, e2, e3⟩ := pr i hi
    obtain ⟨v1, g1, r⟩ := ok.slot i m0 d0 h1
    rw [h2] at g1; cases g1
    exact ⟨m0, d0, v0, by rw [e1]; exact h1, by rw [hs]; exact h2, (r.strip.reach ok.ext h3 h4 h5).2 T.H e3 (fun a o ho => s.stp.keep a o (ok.ext a o ho) fun ⟨j, hj⟩ => by rw [ok.out j a hj] at ho; cases ho), h4, h5⟩
  | new m =>
    obtain ⟨fp, r, n, k⟩ := h
    refine ⟨fp, r.keep s.stp.gext fun a ha o q => s.stp.keep a o q (k a ha).2.1, n, fun a ha => ⟨?_, fun z => ?_, (k a ha).2.2⟩⟩
    · rw [s.stp.gold a (r.has a ha) (k a ha).2.1]; exact (k a ha).1
    · rcases s.stp.fnew a z with z | z
      · exact (k a ha).2.1 z
      · exact r.has a ha z
theorem Nw.of (s : S.to T) {a : Addr} (h : Nw T a) : Nw S a := by
  rcases h with h | h
  · exact s.stp.fnew a h
  · refine .inr ?_
    cases e : S.H a with
    | none => rfl
    | some o => exact absurd h (s.stp.trk a (by rw [e]; exact fun z => nomatch z))
/-- seen from an earlier start -/
theorem Has.from {kd : Kd} {v : V} {d : D} (h : Has K S0 T kd v d) (s : S.to S0) : Has K S T kd v d := by
  cases kd with
  | fz => exact h
  | bor i q m => exact h
  | new m =>
    obtain ⟨fp, r, n, k⟩ := h
    exact ⟨fp, r, n, fun a ha => ⟨(k a ha).1, (k a ha).2.1, (k a ha).2.2.of s⟩⟩
/-- a borrowed value is held within its slot -/
theorem Has.bor_R (ok : S.ok K) {i : Nat} {p : List Nat} {m : Md} {v : V} {d : D} (h : Has K S0 S (.bor i p m) v d) : ∃ fq, R K S.G S.H m v d fq ∧ ∀ a ∈ fq, a ∈ S.f i := by
  obtain ⟨m0, d0, v0, h1, h2, h3, h4, h5⟩ := h
  obtain ⟨v1, e1, r⟩ := ok.slot i m0 d0 h1
  rw [h2] at e1; cases e1
  exact (r.strip.reach ok.ext h3 h4 h5).1
/-- what is seen of a value in the whole heap -/
theorem Has.dt (ok : S.ok K) {kd : Kd} {v : V} {d : D} (h : Has K S0 S kd v d) : Dt K S.H v d := by
  cases kd with
  | fz => exact Dt.mono ok.ext h
  | bor i p m => obtain ⟨fp, r, _⟩ := h.bor_R ok; exact r.dt ok.ext fun a _ o q => q
  | new m => obtain ⟨fp, r, _⟩ := h; exact r.dt ok.ext fun a _ o q => q
theorem R.F_inv {v : V} {d : D} {fp : List Addr} (h : R K G H .F v d fp) : Dt K G v d ∧ fp = [] := by cases h with | F h => exact ⟨h, rfl⟩

/-! ### names, constants -/
def kAt (i : Nat) (p : List Nat) : Md → Kd
  | .F => .fz
  | m => .bor i p m
def wVar (i : Nat) : DE (Kd × D) := fun ρ P => match ρ[i]? with
  | some (some (m, d)) => P.ok [] (kAt i [] m.st, d) ρ
  | _ => False
/-- of a thing that a path leads to -/
theorem Has.of_at (ok : S.ok K) {i : Nat} {p : List Nat} {m0 m : Md} {d0 d : D} {v0 v : V} (h1 : S.ρ[i]? = some (some (m0, d0))) (h2 : S.σ[i]? = some (some v0)) (h3 : Rch S.H v0 p v) (h4 : mAt m0.st p = some m) (h5 : dAt d0 p = some d) : Has K S0 S (kAt i p m) v d := by
  have h : Has K S0 S (.bor i p m) v d := ⟨m0, d0, v0, h1, h2, h3, h4, h5⟩
  cases m with
  | F => obtain ⟨fq, r, _⟩ := h.bor_R ok; exact r.F_inv.1
  | L m => exact h
  | K => exact h
  | N => exact h
  | M m => exact h
  | O ms => exact h
  | P m => exact h
  | T ms => exact h
  | A ms => exact h
theorem te_var {i : Nat} {Q : VK} (h : te K W (wVar i) σ H Q) : tVar i σ H Q := by
  obtain ⟨S, P, rfl, rfl, ok, w, k, _⟩ := h
  unfold wVar at w
  split at w
  · rename_i m d e
    obtain ⟨v, hv, r⟩ := ok.slot i _ _ e
    exact ⟨v, hv, k _ _ S w rfl ok (Sta.refl S) (Tch.refl S _) v (Has.of_at ok e hv .here rfl rfl)⟩
  · exact w.elim
theorem q_var (i : Nat) {x : Str} {pos : Pos} (hN : X.N[i]? = some x := by rfl) (hv : Vis X.env.scope x := by first | exact Or.inl rfl | exact Or.inr (Or.inl rfl) | exact Or.inr (Or.inr rfl)) (hd : (x == ("__debug__" : Str)) = false := by decide)
    (hcd : (x == ("__classdict__" : Str)) = false := by decide) : PE X (.Name x pos) (te X.K W (wVar i)) := PE.imp (pv i hN hv hd hcd) fun _ _ _ h => te_var h
/-- a thing that is plain data everywhere -/
def wC (d : D) : DE (Kd × D) := fun ρ P => P.ok [] (.fz, d) ρ
theorem te_c {v : V} {d : D} {Q : VK} (hd : ∀ G, Dt K G v d) (h : te K W (wC d) σ H Q) : tC v σ H Q := by
  obtain ⟨S, P, rfl, rfl, ok, w, k, _⟩ := h
  exact k _ _ S w rfl ok (Sta.refl S) (Tch.refl S _) v (hd S.G)
theorem q_int {i j pos} : PE X (.Constant (.int i) j pos) (te X.K W (wC (.int i))) := PE.imp pe_int fun _ _ _ h => te_c (fun _ => .int i) h
theorem q_bl {b j pos} : PE X (.Constant (.bool b) j pos) (te X.K W (wC (.bl b))) := PE.imp pe_bl fun _ _ _ h => te_c (fun _ => .bl b) h
theorem q_non {j pos} : PE X (.Constant .none j pos) (te X.K W (wC .non)) := PE.imp pe_non fun _ _ _ h => te_c (fun _ => .non) h
theorem q_str {x j pos} : PE X (.Constant (.str x) j pos) (te X.K W (wC (.str x))) := PE.imp pe_str fun _ _ _ h => te_c (fun _ => .str x) h

/-! ### operations by values -/
abbrev O2 := Kd × D → Kd × D → (Kd × D → Prop) → Prop
/-- an operation that makes new things alone -/
def OkR2 (K : PySem.W.Frag) (r : R2) (o : O2) : Prop := ∀ (S0 S : Sta) (x y : V) (dx dy : Kd × D) (Q : VK) (q : Kd × D → Prop), S.ok K →
  Has K S0 S dx.1 x dx.2 → Has K S0 S dy.1 y dy.2 → o dx dy q → (∀ z, q z → ∀ (v : V) (G' H' : Hp), Grow S.G S.H G' H' → Has K S (S.at G' H') z.1 v z.2 → Q v H') → r x y S.H Q
def wOp (o : O2) (wa wb : DE (Kd × D)) : DE (Kd × D) := fun ρ P => wa ρ ⟨fun p1 x ρ1 => wb ρ1 ⟨fun p2 y ρ2 => hold x.1 p2 = true ∧ o x y fun z => P.ok (p1 ++ p2) z ρ2, P.ex⟩, P.ex⟩
theorem te_op {r : R2} {o : O2} {wa wb : DE (Kd × D)} {Q : VK} (hr : OkR2 K r o) (h : te K W (wOp o wa wb) σ H Q) : tOp r (te K W wa) (te K W wb) σ H Q := by
  obtain ⟨S, P, rfl, rfl, ok, w, k, ex⟩ := h
  refine ⟨S, _, rfl, rfl, ok, w, fun p1 x S1 w1 e1 ok1 t1 pr1 v1 h1 => ?_, ex⟩
  refine ⟨S1, _, e1, rfl, ok1, w1, fun p2 y S2 w2 e2 ok2 t2 pr2 v2 h2 => ?_, fun C fl T e es okT tT dd hd => ex C fl T e es okT (t1.trans tT) dd hd⟩
  obtain ⟨hh, w2⟩ := w2
  refine hr S S2 v1 v2 x y Q _ ok2 (h1.stp ok1 t2 (e2.trans e1.symm) pr2 hh) (h2.from t1) w2 fun z qz v G' H' g hz => ?_
  exact k _ _ (S2.at G' H') qz e2 (Sta.grow ok2 g) ((t1.trans t2).trans g.to) ((pr1.trans pr2).add g.tch) v (hz.from (t1.trans t2))
theorem q_op {op : Operator} {r : R2} {o : O2} {a b : Expr} {wa wb : DE (Kd × D)} {pos : Pos} (ho : OpR X (binaryOp op) r) (hr : OkR2 X.K r o) (ha : PE X a (te X.K W wa)) (hb : PE X b (te X.K W wb)) : PE X (.BinOp a op b pos) (te X.K W (wOp o wa wb)) :=
  PE.imp (pe_op ho ha hb) fun _ _ _ h => te_op hr h
theorem q_cmp {op : CmpOp} {r : R2} {o : O2} {a b : Expr} {wa wb : DE (Kd × D)} {pos : Pos} (ho : OpR X (compareOp op) r) (hr : OkR2 X.K r o) (ha : PE X a (te X.K W wa)) (hb : PE X b (te X.K W wb)) (hm : behindInMarks op b = false) : PE X (.Compare a [op] [b] pos) (te X.K W (wOp o wa wb)) :=
  PE.imp (pe_cmpR ho ha hb hm) fun _ _ _ h => te_op hr h
theorem q_ix {r : R2} {o : O2} {a b : Expr} {wa wb : DE (Kd × D)} {pos : Pos} (ho : IxR X r) (hr : OkR2 X.K r o) (ha : PE X a (te X.K W wa)) (hb : PE X b (te X.K W wb)) (hs : PlainIx b) : PE X (.Subscript a b pos) (te X.K W (wOp o wa wb)) :=
  PE.imp (pe_ix ho ha hb hs) fun _ _ _ h => te_op hr h
/-- of one value, of a list of values -/
abbrev O1 := Kd × D → (Kd × D → Prop) → Prop
abbrev OL := List (Kd × D) → (Kd × D → Prop) → Prop
def OkR1 (K : PySem.W.Frag) (r : V → Hp → VK → Prop) (o : O1) : Prop := ∀ (S0 S : Sta) (x : V) (dx : Kd × D) (Q : VK) (q : Kd × D → Prop), S.ok K →
  Has K S0 S dx.1 x dx.2 → o dx q → (∀ z, q z → ∀ (v : V) (G' H' : Hp), Grow S.G S.H G' H' → Has K S (S.at G' H') z.1 v z.2 → Q v H') → r x S.H Q
def OkRL (K : PySem.W.Frag) (r : List V → Hp → VK → Prop) (o : OL) : Prop := ∀ (S0 S : Sta) (x : List V) (dx : List (Kd × D)) (Q : VK) (q : Kd × D → Prop), S.ok K →
  HasA K S0 S x dx → o dx q → (∀ z, q z → ∀ (v : V) (G' H' : Hp), Grow S.G S.H G' H' → Has K S (S.at G' H') z.1 v z.2 → Q v H') → r x S.H Q
def wUn (o : O1) (wa : DE (Kd × D)) : DE (Kd × D) := fun ρ P => wa ρ ⟨fun p1 x ρ1 => o x fun z => P.ok p1 z ρ1, P.ex⟩
def wCB (o : OL) (wa : DE (List (Kd × D))) : DE (Kd × D) := fun ρ P => wa ρ ⟨fun p1 x ρ1 => o x fun z => P.ok p1 z ρ1, P.ex⟩
theorem te_cb {r : List V → Hp → VK → Prop} {o : OL} {wa : DE (List (Kd × D))} {Q : VK} (hr : OkRL K r o) (h : te K W (wCB o wa) σ H Q) : tCB r (ta K W wa) σ H Q := by
  obtain ⟨S, P, rfl, rfl, ok, w, k, ex⟩ := h
  refine ⟨S, _, rfl, rfl, ok, w, fun p1 x S1 w1 e1 ok1 t1 pr1 v1 h1 => ?_, ex⟩
  refine hr S S1 v1 x Q _ ok1 h1 w1 fun z qz v G' H' g hz => ?_
  exact k _ _ (S1.at G' H') qz e1 (Sta.grow ok1 g) (t1.trans g.to) (pr1.add g.tch) v (hz.from t1)
theorem q_callB {x : Str} {id : String} {r : List V → Hp → VK → Prop} {o : OL} {e : Expr} {es : List Expr} {wa : DE (List (Kd × D))} {p pos : Pos} (hc : CallR X (.builtin id) r) (hr : OkRL X.K r o) (hg : Gl X x) (hm : X.mg x = none) (hv : bootBuiltins x = some (.builtin id)) (ha : PA X (e :: es) (ta X.K W wa)) (hn : x ≠ "__name__" := by decide) (hdb : (x == ("__debug__" : Str)) = false := by decide)
    (he : starEach (e :: es) X.env = (false, eval e X.env) :: starEach es X.env := by rfl) (hpl : (backTo pos (starEach es X.env)).any (·.1) = false := by rfl) : PE X (.Call (.Name x p) (e :: es) [] pos) (te X.K W (wCB o wa)) :=
  PE.imp (pe_callB hc hg hm hv ha hn hdb he hpl) fun _ _ _ h => te_cb hr h
theorem q_callTy {x : Str} {T : String} {r : List V → Hp → VK → Prop} {o : OL} {e : Expr} {es : List Expr} {wa : DE (List (Kd × D))} {p pos : Pos} (hc : CallR X (.type T) r) (hr : OkRL X.K r o) (hg : Gl X x) (hm : X.mg x = none) (hv : bootBuiltins x = some (.type T)) (ha : PA X (e :: es) (ta X.K W wa)) (hn : x ≠ "__name__" := by decide) (hdb : (x == ("__debug__" : Str)) = false := by decide)
    (he : starEach (e :: es) X.env = (false, eval e X.env) :: starEach es X.env := by rfl) (hpl : (backTo pos (starEach es X.env)).any (·.1) = false := by rfl) : PE X (.Call (.Name x p) (e :: es) [] pos) (te X.K W (wCB o wa)) :=
  PE.imp (pe_callTy hc hg hm hv ha hn hdb he hpl) fun _ _ _ h => te_cb hr h
end
end VL

namespace VL
open PySem PySem.Spec PyProof.Rows L2
section
variable {K : PySem.W.Frag} {W : WX} {G G' H H' H0 : Hp} {σ : L2.St} {ρ : Rho} {f f' : Own} {pin : Nat → Option V} {X : Cx} {S S0 S1 T T1 T2 : Sta}

/-! ### what is owned becomes what nobody changes -/
open Classical in
noncomputable def Gadd (G H : Hp) (B : Addr → Prop) : Hp := fun a => if B a then H a else G a
theorem Gadd.in {B : Addr → Prop} {a : Addr} (h : B a) : Gadd G H B a = H a := if_pos h
theorem Gadd.out {B : Addr → Prop} {a : Addr} (h : ¬ B a) : Gadd G H B a = G a := if_neg h
theorem Gadd.ext {B : Addr → Prop} (k : ∀ a, B a → G a = none) : Ex G (Gadd G H B) := fun a o e => by
  rw [Gadd.out fun h => by rw [k a h] at e; cases e]; exact e
theorem Gadd.sub {B : Addr → Prop} (e : Ex G H) : Ex (Gadd G H B) H := fun a o q => by
  by_cases h : B a
  · rw [Gadd.in h] at q; exact q
  · rw [Gadd.out h] at q; exact e a o q
theorem Sx.gadd (S : Sx K pin G H σ ρ f) {B : Addr → Prop} (k : ∀ a, B a → G a = none ∧ ¬ Ow f a) : Sx K pin (Gadd G H B) H σ ρ f where
  ext := Gadd.sub S.ext
  len := S.len
  slot := fun i m d e => by
    obtain ⟨v, h1, r⟩ := S.slot i m d e
    exact ⟨v, h1, r.keep (Gadd.ext fun a h => (k a h).1) fun a _ o h => h⟩
  emp := S.emp
  nd := S.nd
  dj := S.dj
  out := fun i a h => by
    rw [Gadd.out fun z => (k a z).2 ⟨i, h⟩]
    exact S.out i a h
  pins := S.pins
/-- what is new since S is frozen -/
theorem Sta.to.gadd (t : S.to T) {B : Addr → Prop} (k : ∀ a, B a → T.G a = none ∧ ¬ Ow T.f a ∧ Nw S a) : S.to (T.at (Gadd T.G T.H B) T.H) where
  stp := {
    gext := t.stp.gext.trans (Gadd.ext fun a h => (k a h).1)
    keep := t.stp.keep
    gold := fun a h1 h2 => by
      show Gadd T.G T.H B a = _
      rw [Gadd.out fun z => ?_]
      · exact t.stp.gold a h1 h2
      · rcases (k a z).2.2 with q | q
        · exact h2 q
        · exact h1 q
    fnew := t.stp.fnew
    trk := t.stp.trk }
  pin := t.pin
def Kd.frz : Kd → Kd
  | .new _ => .fz
  | k => k
def wFz (w : DE (Kd × D)) : DE (Kd × D) := fun ρ P => w ρ ⟨fun p x ρ' => P.ok p (x.1.frz, x.2) ρ', P.ex⟩
theorem te_fz {w : DE (Kd × D)} {Q : VK} (h : te K W (wFz w) σ H Q) : te K W w σ H Q := by
  obtain ⟨S, P, rfl, rfl, ok, w, k, ex⟩ := h
  refine ⟨S, _, rfl, rfl, ok, w, fun p x T w1 e1 ok1 t1 pr1 v h1 => ?_, ex⟩
  obtain ⟨kd, d⟩ := x
  cases kd with
  | fz => exact k _ _ T w1 e1 ok1 t1 pr1 v h1
  | bor i q m => exact k _ _ T w1 e1 ok1 t1 pr1 v h1
  | new m =>
    obtain ⟨fp, r, n, kk⟩ := h1
    refine k _ _ (T.at (Gadd T.G T.H (· ∈ fp)) T.H) w1 e1 (Sx.gadd ok1 fun a h => ⟨(kk a h).1, (kk a h).2.1⟩) (t1.gadd kk) pr1 v ?_
    show Dt K _ v d
    exact r.dt (Gadd.ext fun a h => (kk a h).1) fun a ha o q => by rw [Gadd.in ha]; exact q
theorem q_fz {e : Expr} {w : DE (Kd × D)} (h : PE X e (te X.K W w)) : PE X e (te X.K W (wFz w)) := PE.imp h fun _ _ _ h => te_fz h

/-! ### argument lists -/
def wNil : DE (List (Kd × D)) := fun ρ P => P.ok [] [] ρ
def wCons (wa : DE (Kd × D)) (wr : DE (List (Kd × D))) : DE (List (Kd × D)) := fun ρ P => wFz wa ρ ⟨fun p1 x ρ1 => wr ρ1 ⟨fun p2 xs ρ2 => hold x.1 p2 = true ∧ P.ok (p1 ++ p2) (x :: xs) ρ2, P.ex⟩, P.ex⟩
theorem ta_nil {Q : List V → Hp → Prop} (h : ta K W wNil σ H Q) : tNil σ H Q := by
  obtain ⟨S, P, rfl, rfl, ok, w, k, _⟩ := h
  exact k _ _ S w rfl ok (Sta.refl S) (Tch.refl S _) [] .nil
theorem HasA.from {vs : List V} {ds : List (Kd × D)} (h : HasA K S0 T vs ds) (s : S.to S0) : HasA K S T vs ds := by
  induction h with
  | nil => exact .nil
  | cons h t ih => exact .cons (h.from s) ih
theorem ta_cons {wa : DE (Kd × D)} {wr : DE (List (Kd × D))} {Q : List V → Hp → Prop} (h : ta K W (wCons wa wr) σ H Q) : tCons (te K W wa) (ta K W wr) σ H Q := by
  obtain ⟨S, P, rfl, rfl, ok, w, k, ex⟩ := h
  unfold wCons at w
  show te K W wa S.σ S.H fun x H1 => ta K W wr S.σ H1 fun xs H2 => Q (x :: xs) H2
  refine te_fz ⟨S, _, rfl, rfl, ok, w, fun p1 x S1 w1 e1 ok1 t1 pr1 v1 h1 => ?_, ex⟩
  refine ⟨S1, _, e1, rfl, ok1, w1, fun p2 xs S2 w2 e2 ok2 t2 pr2 vs h2 => ?_, fun C fl T e es okT tT dd hd => ex C fl T e es okT (t1.trans tT) dd hd⟩
  exact k _ _ S2 w2.2 e2 ok2 (t1.trans t2) (pr1.trans pr2) _ (.cons (h1.stp ok1 t2 (e2.trans e1.symm) pr2 w2.1) (h2.from t1))
theorem q_nil : PA X [] (ta X.K W wNil) := PA.imp pa_nil fun _ _ _ h => ta_nil h
theorem q_cons {e : Expr} {es : List Expr} {wa : DE (Kd × D)} {wr : DE (List (Kd × D))} (ha : PE X e (te X.K W wa)) (hr : PA X es (ta X.K W wr)) (hs : starEach (e :: es) X.env = (false, eval e X.env) :: starEach es X.env := by rfl) : PA X (e :: es) (ta X.K W (wCons wa wr)) :=
  PA.imp (pa_cons ha hr hs) fun _ _ _ h => ta_cons h

/-! ### displays -/
def allFz : List (Kd × D) → Bool
  | [] => true
  | (.fz, _) :: r => allFz r
  | _ => false
theorem HasA.fzs {vs : List V} : ∀ {ds : List (Kd × D)}, HasA K S0 T vs ds → allFz ds = true → DtA K T.G vs (ds.map (·.2)) := by
  intro ds h
  induction h with
  | nil => exact fun _ => .nil
  | @cons v kd d vs ds h t ih =>
    intro a
    cases kd with
    | fz => exact .cons h (ih a)
    | bor i p m => cases a
    | new m => cases a
theorem HasA.len {vs : List V} {ds : List (Kd × D)} (h : HasA K S0 T vs ds) : vs.length = ds.length := by
  induction h with
  | nil => rfl
  | cons h t ih => simp [ih]
theorem DtA.len {G : Hp} : ∀ {vs : List V} {ds : List D}, DtA K G vs ds → vs.length = ds.length
  | _, _, .nil => rfl
  | _, _, .cons h t => by simp [DtA.len t]
theorem DtA.get {G : Hp} : ∀ {vs : List V} {ds : List D} {j : Nat} {d : D}, DtA K G vs ds → ds[j]? = some d → ∃ v, vs[j]? = some v ∧ Dt K G v d
  | _, _, _, _, .nil, h => by simp at h
  | _, _, 0, _, .cons h t, e => by simp at e; subst e; exact ⟨_, rfl, h⟩
  | _, _, j + 1, _, .cons h t, e => by
    obtain ⟨v, e1, h1⟩ := DtA.get t (j := j) (by simpa using e)
    exact ⟨v, by simpa using e1, h1⟩
theorem DtA.append {G : Hp} : ∀ {vs ws : List V} {ds es : List D}, DtA K G vs ds → DtA K G ws es → DtA K G (vs ++ ws) (ds ++ es)
  | _, _, _, _, .nil, h => h
  | _, _, _, _, .cons h t, h' => .cons h (DtA.append t h')
theorem DtA.take {G : Hp} : ∀ {vs : List V} {ds : List D} (n : Nat), DtA K G vs ds → DtA K G (vs.take n) (ds.take n)
  | _, _, 0, _ => by simp; exact .nil
  | _, _, _ + 1, .nil => by simp; exact .nil
  | _, _, n + 1, .cons h t => by simp; exact .cons h (DtA.take n t)
theorem DtA.drop {G : Hp} : ∀ {vs : List V} {ds : List D} (n : Nat), DtA K G vs ds → DtA K G (vs.drop n) (ds.drop n)
  | _, _, 0, h => by simpa using h
  | _, _, _ + 1, .nil => by simp; exact .nil
  | _, _, n + 1, .cons h t => by simp; exact DtA.drop n t
theorem DtA.rep {G : Hp} {vs : List V} {ds : List D} (h : DtA K G vs ds) : ∀ n : Nat, DtA K G (List.replicate n vs).flatten (List.replicate n ds).flatten
  | 0 => by simp; exact .nil
  | n + 1 => by simp only [List.replicate_succ, List.flatten_cons]; exact DtA.append h (DtA.rep h n)
theorem RA.of_dt {G H : Hp} : ∀ {vs : List V} {ds : List D}, DtA K G vs ds → RA K G H .F vs ds []
  | _, _, .nil => .nil
  | _, _, .cons h t => by
    have q := RA.cons (H := H) (.F h) (RA.of_dt (H := H) t)
    simpa using q
theorem RA.F_dt {G H : Hp} : ∀ {vs : List V} {ds : List D} {fp : List Addr}, RA K G H .F vs ds fp → DtA K G vs ds ∧ fp = []
  | _, _, _, .nil => ⟨.nil, rfl⟩
  | _, _, _, .cons h t => by
    obtain ⟨h1, h2⟩ := h.F_inv
    obtain ⟨h3, h4⟩ := RA.F_dt t
    exact ⟨.cons h1 h3, by rw [h2, h4]; rfl⟩
def small (n : Nat) : Bool := Nat.ble n 100000
theorem small_sz {n : Nat} (h : small n = true) : n ≤ sizeLine := Nat.le_trans (Nat.le_of_ble_eq_true h) (by decide)
def wTup (wa : DE (List (Kd × D))) : DE (Kd × D) := fun ρ P => wa ρ ⟨fun p xs ρ' => (allFz xs = true ∧ small xs.length = true) ∧ P.ok p (.fz, .tup (xs.map (·.2))) ρ', P.ex⟩
def wLst (wa : DE (List (Kd × D))) : DE (Kd × D) := fun ρ P => wa ρ ⟨fun p xs ρ' => (allFz xs = true ∧ small xs.length = true) ∧ P.ok p (.new (.L .F), .lst (xs.map (·.2))) ρ', P.ex⟩
theorem Dt.tup_new {p : Addr} {vs : List V} {ds : List D} (h : DtA K G vs ds) (hp : G p = none) : Dt K (upd G p (.tup vs)) (.ref p) (.tup ds) := .tup (.of upd_same) (h.mono (Ex.new hp))
/-- a new list of one's own, of frozen things -/
theorem Has.lst_new {p : Addr} {vs : List V} {ds : List D} (ok : T.ok K) (h : DtA K T.G vs ds) (hp : T.H p = none) (n : S0.H p = none) : Has K S0 (T.at T.G (upd T.H p (.lst vs))) (.new (.L .F)) (.ref p) (.lst ds) := by
  refine ⟨[p], .L upd_same (RA.of_dt h), by simp, fun a ha => ?_⟩
  have e : a = p := by simpa using ha
  subst e
  exact ⟨ok.ext.free hp, fun z => ok.own z hp, .inr n⟩
theorem Stp.free {G H G' H' : Hp} {f f' : Own} (s : Stp G H f G' H' f') {a : Addr} (h : H' a = none) : H a = none := by
  cases e : H a with
  | none => rfl
  | some o => exact absurd h (s.trk a (by rw [e]; exact fun z => nomatch z))
theorem te_tup {wa : DE (List (Kd × D))} {Q : VK} (h : te K W (wTup wa) σ H Q) : tTup (ta K W wa) σ H Q := by
  obtain ⟨S, P, rfl, rfl, ok, w, k, ex⟩ := h
  refine ⟨S, _, rfl, rfl, ok, w, fun p1 x S1 w1 e1 ok1 t1 pr1 v1 h1 => ?_, ex⟩
  refine ⟨by rw [h1.len]; exact small_sz w1.1.2, fun p hp => ?_⟩
  have g : Grow S1.G S1.H (upd S1.G p (.tup v1)) (upd S1.H p (.tup v1)) := Grow.new ok1.ext hp
  exact k _ _ (S1.at (upd S1.G p (.tup v1)) (upd S1.H p (.tup v1))) w1.2 e1 (Sta.grow ok1 g) (t1.trans g.to) (pr1.add g.tch) _ (Dt.tup_new (h1.fzs w1.1.1) (ok1.ext.free hp))
theorem te_lst {wa : DE (List (Kd × D))} {Q : VK} (h : te K W (wLst wa) σ H Q) : tLst (ta K W wa) σ H Q := by
  obtain ⟨S, P, rfl, rfl, ok, w, k, ex⟩ := h
  refine ⟨S, _, rfl, rfl, ok, w, fun p1 x S1 w1 e1 ok1 t1 pr1 v1 h1 => ?_, ex⟩
  refine ⟨by rw [h1.len]; exact small_sz w1.1.2, fun p hp => ?_⟩
  have g : Grow S1.G S1.H S1.G (upd S1.H p (.lst v1)) := Grow.own ok1.ext hp
  exact k _ _ (S1.at S1.G (upd S1.H p (.lst v1))) w1.2 e1 (Sta.grow ok1 g) (t1.trans g.to) (pr1.add g.tch) _ (Has.lst_new ok1 (h1.fzs w1.1.1) hp (t1.stp.free hp))
theorem q_tup {es : List Expr} {x1 : Nat} {pos : Pos} {wa : DE (List (Kd × D))} (h : PA X es (ta X.K W wa)) : PE X (.Tuple es x1 pos) (te X.K W (wTup wa)) := PE.imp (pe_tup h) fun _ _ _ h => te_tup h
theorem q_lst {es : List Expr} {pos : Pos} {wa : DE (List (Kd × D))} (h : PA X es (ta X.K W wa)) : PE X (.List es pos) (te X.K W (wLst wa)) := PE.imp (pe_lst h) fun _ _ _ h => te_lst h
/-- {} -/
def wDic : DE (Kd × D) := fun ρ P => P.ok [] (.new .K, .dct []) ρ
/-! ### tests -/
def wT (w : DE (Kd × D)) : DE Bool := fun ρ P => w ρ ⟨fun p x ρ' => match x.2 with
  | .bl b => P.ok p b ρ'
  | _ => False, P.ex⟩
theorem Has.bl_inv (ok : T.ok K) {kd : Kd} {v : V} {b : Bool} (h : Has K S0 T kd v (.bl b)) : v = .bl b := by
  have q := h.dt ok
  cases q; rfl
theorem Has.int_inv (ok : T.ok K) {kd : Kd} {v : V} {b : Int} (h : Has K S0 T kd v (.int b)) : v = .int b := by
  have q := h.dt ok
  cases q; rfl
theorem Has.str_inv (ok : T.ok K) {kd : Kd} {v : V} {b : Str} (h : Has K S0 T kd v (.str b)) : v = .str b := by
  have q := h.dt ok
  cases q; rfl
theorem tt_T {w : DE (Kd × D)} {Q : Bool → Hp → Prop} (h : tt K W (wT w) σ H Q) : te K W w σ H fun x H1 => ∃ c, x = .bl c ∧ Q c H1 := by
  obtain ⟨S, P, rfl, rfl, ok, w, k, ex⟩ := h
  unfold wT at w
  refine ⟨S, _, rfl, rfl, ok, w, fun p1 x S1 w1 e1 ok1 t1 pr1 v1 h1 => ?_, ex⟩
  obtain ⟨kd, d⟩ := x
  cases d with
  | bl b => exact ⟨b, h1.bl_inv ok1, k _ _ S1 w1 e1 ok1 t1 pr1 _ rfl⟩
  | _ => exact w1.elim
/-- a call, a name, .. as a test -/
theorem q_tval {e : Expr} {w : DE (Kd × D)} (h : PE X e (te X.K W w)) (he : ∀ whole, isTrue e X.env whole = (do let v ← whole; standAt e.pos; holding [v] (truthy v)) := by intro _; rfl) : PT X e (tt X.K W (wT w)) :=
  PT.imp (pt_val h he) fun _ _ _ h => tt_T h
theorem q_tcmp {op : CmpOp} {r : R2} {o : O2} {a b : Expr} {wa wb : DE (Kd × D)} {pos : Pos} (ho : OpR X (compareOp op) r) (hr : OkR2 X.K r o) (ha : PE X a (te X.K W wa)) (hb : PE X b (te X.K W wb)) (hm : behindInMarks op b = false) : PT X (.Compare a [op] [b] pos) (tt X.K W (wT (wOp o wa wb))) :=
  PT.imp (pt_cmpR ho ha hb hm) fun _ _ _ h => te_op hr (tt_T h)
def wAnd (a b : DE Bool) : DE Bool := fun ρ P => a ρ ⟨fun p1 c ρ1 => match c with
  | true => b ρ1 ⟨fun p2 c2 ρ2 => P.ok (p1 ++ p2) c2 ρ2, P.ex⟩
  | false => P.ok p1 false ρ1, P.ex⟩
def wOr (a b : DE Bool) : DE Bool := fun ρ P => a ρ ⟨fun p1 c ρ1 => match c with
  | true => P.ok p1 true ρ1
  | false => b ρ1 ⟨fun p2 c2 ρ2 => P.ok (p1 ++ p2) c2 ρ2, P.ex⟩, P.ex⟩
def wNot (a : DE Bool) : DE Bool := fun ρ P => a ρ ⟨fun p1 c ρ1 => P.ok p1 (!c) ρ1, P.ex⟩
theorem tt_and {a b : DE Bool} {Q : Bool → Hp → Prop} (h : tt K W (wAnd a b) σ H Q) : tAnd (tt K W a) (tt K W b) σ H Q := by
  obtain ⟨S, P, rfl, rfl, ok, w, k, ex⟩ := h
  unfold wAnd at w
  refine ⟨S, _, rfl, rfl, ok, w, fun p1 c S1 w1 e1 ok1 t1 pr1 v1 h1 => ?_, ex⟩
  subst h1
  cases v1 with
  | true =>
    refine ⟨S1, _, e1, rfl, ok1, w1, fun p2 c2 S2 w2 e2 ok2 t2 pr2 v2 h2 => ?_, fun C fl T e es okT tT dd hd => ex C fl T e es okT (t1.trans tT) dd hd⟩
    exact k _ _ S2 w2 e2 ok2 (t1.trans t2) (pr1.trans pr2) _ h2
  | false => exact k _ _ S1 w1 e1 ok1 t1 pr1 _ rfl
theorem tt_or {a b : DE Bool} {Q : Bool → Hp → Prop} (h : tt K W (wOr a b) σ H Q) : tOr (tt K W a) (tt K W b) σ H Q := by
  obtain ⟨S, P, rfl, rfl, ok, w, k, ex⟩ := h
  unfold wOr at w
  refine ⟨S, _, rfl, rfl, ok, w, fun p1 c S1 w1 e1 ok1 t1 pr1 v1 h1 => ?_, ex⟩
  subst h1
  cases v1 with
  | false =>
    refine ⟨S1, _, e1, rfl, ok1, w1, fun p2 c2 S2 w2 e2 ok2 t2 pr2 v2 h2 => ?_, fun C fl T e es okT tT dd hd => ex C fl T e es okT (t1.trans tT) dd hd⟩
    exact k _ _ S2 w2 e2 ok2 (t1.trans t2) (pr1.trans pr2) _ h2
  | true => exact k _ _ S1 w1 e1 ok1 t1 pr1 _ rfl
theorem tt_not {a : DE Bool} {Q : Bool → Hp → Prop} (h : tt K W (wNot a) σ H Q) : tNot (tt K W a) σ H Q := by
  obtain ⟨S, P, rfl, rfl, ok, w, k, ex⟩ := h
  refine ⟨S, _, rfl, rfl, ok, w, fun p1 c S1 w1 e1 ok1 t1 pr1 v1 h1 => ?_, ex⟩
  subst h1
  exact k _ _ S1 w1 e1 ok1 t1 pr1 _ rfl
section
variable {a b : Expr} {rest : List Expr} {pos : Pos} {wa wb : DE Bool}
theorem qw_and1 (ha : PT X a (tt X.K W wa)) : PW X (.BoolOp .And [a] pos) (tt X.K W wa) := pw_and1 ha
theorem qw_or1 (ha : PT X a (tt X.K W wa)) : PW X (.BoolOp .Or [a] pos) (tt X.K W wa) := pw_or1 ha
theorem qw_and (ha : PT X a (tt X.K W wa)) (hb : PW X (.BoolOp .And (b :: rest) pos) (tt X.K W wb)) : PW X (.BoolOp .And (a :: b :: rest) pos) (tt X.K W (wAnd wa wb)) := PW.imp (pw_and ha hb) fun _ _ _ h => tt_and h
theorem qw_or (ha : PT X a (tt X.K W wa)) (hb : PW X (.BoolOp .Or (b :: rest) pos) (tt X.K W wb)) : PW X (.BoolOp .Or (a :: b :: rest) pos) (tt X.K W (wOr wa wb)) := PW.imp (pw_or ha hb) fun _ _ _ h => tt_or h
theorem q_not (ha : PT X a (tt X.K W wa)) : PT X (.UnaryOp .Not a pos) (tt X.K W (wNot wa)) := PT.imp (pt_not ha) fun _ _ _ h => tt_not h
end
/-- .. as values (of bools) -/
def wAndV (a b : DE (Kd × D)) : DE (Kd × D) := fun ρ P => a ρ ⟨fun p1 x ρ1 => match x.2 with
  | .bl true => b ρ1 ⟨fun p2 c2 ρ2 => P.ok (p1 ++ p2) c2 ρ2, P.ex⟩
  | .bl false => P.ok p1 (.fz, .bl false) ρ1
  | _ => False, P.ex⟩
def wOrV (a b : DE (Kd × D)) : DE (Kd × D) := fun ρ P => a ρ ⟨fun p1 x ρ1 => match x.2 with
  | .bl false => b ρ1 ⟨fun p2 c2 ρ2 => P.ok (p1 ++ p2) c2 ρ2, P.ex⟩
  | .bl true => P.ok p1 (.fz, .bl true) ρ1
  | _ => False, P.ex⟩
def wNotV (a : DE (Kd × D)) : DE (Kd × D) := fun ρ P => a ρ ⟨fun p1 x ρ1 => match x.2 with
  | .bl b => P.ok p1 (.fz, .bl (!b)) ρ1
  | _ => False, P.ex⟩
theorem te_andV {a b : DE (Kd × D)} {Q : VK} (h : te K W (wAndV a b) σ H Q) : tAndV (te K W a) (te K W b) σ H Q := by
  obtain ⟨S, P, rfl, rfl, ok, w, k, ex⟩ := h
  unfold wAndV at w
  refine ⟨S, _, rfl, rfl, ok, w, fun p1 x S1 w1 e1 ok1 t1 pr1 v1 h1 => ?_, ex⟩
  obtain ⟨kd, d⟩ := x
  cases d with
  | bl b =>
    refine ⟨b, h1.bl_inv ok1, ?_⟩
    cases b with
    | true =>
      refine ⟨S1, _, e1, rfl, ok1, w1, fun p2 c2 S2 w2 e2 ok2 t2 pr2 v2 h2 => ?_, fun C fl T e es okT tT dd hd => ex C fl T e es okT (t1.trans tT) dd hd⟩
      exact k _ _ S2 w2 e2 ok2 (t1.trans t2) (pr1.trans pr2) _ (h2.from t1)
    | false => exact k _ _ S1 w1 e1 ok1 t1 pr1 _ (.bl false)
  | _ => exact w1.elim
theorem te_orV {a b : DE (Kd × D)} {Q : VK} (h : te K W (wOrV a b) σ H Q) : tOrV (te K W a) (te K W b) σ H Q := by
  obtain ⟨S, P, rfl, rfl, ok, w, k, ex⟩ := h
  unfold wOrV at w
  refine ⟨S, _, rfl, rfl, ok, w, fun p1 x S1 w1 e1 ok1 t1 pr1 v1 h1 => ?_, ex⟩
  obtain ⟨kd, d⟩ := x
  cases d with
  | bl b =>
    refine ⟨b, h1.bl_inv ok1, ?_⟩
    cases b with
    | false =>
      refine ⟨S1, _, e1, rfl, ok1, w1, fun p2 c2 S2 w2 e2 ok2 t2 pr2 v2 h2 => ?_, fun C fl T e es okT tT dd hd => ex C fl T e es okT (t1.trans tT) dd hd⟩
      exact k _ _ S2 w2 e2 ok2 (t1.trans t2) (pr1.trans pr2) _ (h2.from t1)
    | true => exact k _ _ S1 w1 e1 ok1 t1 pr1 _ (.bl true)
  | _ => exact w1.elim
theorem te_notV {a : DE (Kd × D)} {Q : VK} (h : te K W (wNotV a) σ H Q) : tNotV (te K W a) σ H Q := by
  obtain ⟨S, P, rfl, rfl, ok, w, k, ex⟩ := h
  unfold wNotV at w
  refine ⟨S, _, rfl, rfl, ok, w, fun p1 x S1 w1 e1 ok1 t1 pr1 v1 h1 => ?_, ex⟩
  obtain ⟨kd, d⟩ := x
  cases d with
  | bl b => exact ⟨b, h1.bl_inv ok1, k _ _ S1 w1 e1 ok1 t1 pr1 _ (.bl _)⟩
  | _ => exact w1.elim
def wIf (t : DE Bool) (a b : DE (Kd × D)) : DE (Kd × D) := fun ρ P => t ρ ⟨fun p1 c ρ1 => match c with
  | true => a ρ1 ⟨fun p2 x ρ2 => P.ok (p1 ++ p2) x ρ2, P.ex⟩
  | false => b ρ1 ⟨fun p2 x ρ2 => P.ok (p1 ++ p2) x ρ2, P.ex⟩, P.ex⟩
theorem te_if {t : DE Bool} {a b : DE (Kd × D)} {Q : VK} (h : te K W (wIf t a b) σ H Q) : tIf (tt K W t) (te K W a) (te K W b) σ H Q := by
  obtain ⟨S, P, rfl, rfl, ok, w, k, ex⟩ := h
  unfold wIf at w
  refine ⟨S, _, rfl, rfl, ok, w, fun p1 c S1 w1 e1 ok1 t1 pr1 v1 h1 => ?_, ex⟩
  subst h1
  cases v1 with
  | true =>
    show te K W a S.σ S1.H Q
    refine ⟨S1, _, e1, rfl, ok1, w1, fun p2 c2 S2 w2 e2 ok2 t2 pr2 v2 h2 => ?_, fun C fl T e es okT tT dd hd => ex C fl T e es okT (t1.trans tT) dd hd⟩
    exact k _ _ S2 w2 e2 ok2 (t1.trans t2) (pr1.trans pr2) _ (h2.from t1)
  | false =>
    show te K W b S.σ S1.H Q
    refine ⟨S1, _, e1, rfl, ok1, w1, fun p2 c2 S2 w2 e2 ok2 t2 pr2 v2 h2 => ?_, fun C fl T e es okT tT dd hd => ex C fl T e es okT (t1.trans tT) dd hd⟩
    exact k _ _ S2 w2 e2 ok2 (t1.trans t2) (pr1.trans pr2) _ (h2.from t1)
section
variable {a b c : Expr} {rest : List Expr} {pos : Pos} {wa wb wc : DE (Kd × D)} {wt : DE Bool}
theorem q_one {op} (h : PE X a (te X.K W wa)) : PE X (.BoolOp op [a] pos) (te X.K W wa) := pe_one h
theorem q_and (ha : PE X a (te X.K W wa)) (hb : PE X (.BoolOp .And (b :: rest) pos) (te X.K W wb)) : PE X (.BoolOp .And (a :: b :: rest) pos) (te X.K W (wAndV wa wb)) := PE.imp (pe_and ha hb) fun _ _ _ h => te_andV h
theorem q_or (ha : PE X a (te X.K W wa)) (hb : PE X (.BoolOp .Or (b :: rest) pos) (te X.K W wb)) : PE X (.BoolOp .Or (a :: b :: rest) pos) (te X.K W (wOrV wa wb)) := PE.imp (pe_or ha hb) fun _ _ _ h => te_orV h
theorem q_notV (ha : PE X a (te X.K W wa)) : PE X (.UnaryOp .Not a pos) (te X.K W (wNotV wa)) := PE.imp (pe_not ha) fun _ _ _ h => te_notV h
theorem q_if (hc : PT X c (tt X.K W wt)) (ha : PE X a (te X.K W wa)) (hb : PE X b (te X.K W wb)) : PE X (.IfExp c a b pos) (te X.K W (wIf wt wa wb)) := PE.imp (pe_ifExp hc ha hb) fun _ _ _ h => te_if h
end
/-- a < b < c -/
def wChain (o o' : O2) (wa wb wc : DE (Kd × D)) : DE (Kd × D) := fun ρ P => wa ρ ⟨fun p1 x ρ1 => wb ρ1 ⟨fun p2 y ρ2 => hold x.1 p2 = true ∧ o x y fun z => match z.2 with
  | .bl true => wc ρ2 ⟨fun p3 u ρ3 => hold y.1 p3 = true ∧ o' y u fun z => P.ok (p1 ++ p2 ++ p3) z ρ3, P.ex⟩
  | .bl false => P.ok (p1 ++ p2) (.fz, .bl false) ρ2
  | _ => False, P.ex⟩, P.ex⟩
theorem Has.at_grow {kd : Kd} {v : V} {d : D} (ok : S.ok K) (g : Grow S.G S.H G' H') (h : Has K S0 S kd v d) : Has K S0 (S.at G' H') kd v d :=
  h.stp (p := []) ok g.to rfl g.tch (by cases kd <;> rfl)
theorem te_chain {r r' : R2} {o o' : O2} {wa wb wc : DE (Kd × D)} {Q : VK} (hr : OkR2 K r o) (hr' : OkR2 K r' o') (h : te K W (wChain o o' wa wb wc) σ H Q) : tChain r r' (te K W wa) (te K W wb) (te K W wc) σ H Q := by
  obtain ⟨S, P, rfl, rfl, ok, w, k, ex⟩ := h
  refine ⟨S, _, rfl, rfl, ok, w, fun p1 x S1 w1 e1 ok1 t1 pr1 v1 h1 => ?_, ex⟩
  refine ⟨S1, _, e1, rfl, ok1, w1, fun p2 y S2 w2 e2 ok2 t2 pr2 v2 h2 => ?_, fun C fl T e es okT tT dd hd => ex C fl T e es okT (t1.trans tT) dd hd⟩
  obtain ⟨hh, w2⟩ := w2
  refine hr S S2 v1 v2 x y _ _ ok2 (h1.stp ok1 t2 (e2.trans e1.symm) pr2 hh) (h2.from t1) w2 fun z qz v G' H' g hz => ?_
  obtain ⟨kz, dz⟩ := z
  have okg := Sta.grow ok2 g
  have t12 := (t1.trans t2).trans g.to
  cases dz with
  | bl b =>
    refine ⟨b, hz.bl_inv okg, ?_⟩
    cases b with
    | true =>
      refine ⟨S2.at G' H', _, e2, rfl, okg, qz, fun p3 u S3 w3 e3 ok3 t3 pr3 v3 h3 => ?_, fun C fl T e es okT tT dd hd => ex C fl T e es okT (t12.trans tT) dd hd⟩
      refine hr' S S3 v2 v3 y u _ _ ok3 (((h2.from t1).at_grow ok2 g).stp okg t3 (e3.trans e2.symm) pr3 w3.1) (h3.from t12) w3.2 fun z qz v G'' H'' g' hz => ?_
      exact k _ _ (S3.at G'' H'') qz e3 (Sta.grow ok3 g') ((t12.trans t3).trans g'.to) (((((pr1.trans pr2).add g.tch).trans pr3)).add g'.tch) v (hz.from (t12.trans t3))
    | false => exact k _ _ (S2.at G' H') qz e2 okg t12 ((pr1.trans pr2).add g.tch) _ (.bl false)
  | _ => exact qz.elim
theorem q_chain {op op' : CmpOp} {r r' : R2} {o o' : O2} {a b c : Expr} {wa wb wc : DE (Kd × D)} {pos : Pos} (ho : OpR X (compareOp op) r) (ho' : OpR X (compareOp op') r') (hr : OkR2 X.K r o) (hr' : OkR2 X.K r' o') (ha : PE X a (te X.K W wa)) (hb : PE X b (te X.K W wb)) (hc : PE X c (te X.K W wc))
    (hm : lastMarks [op, op'] [b, c] = false := by with_unfolding_all rfl) : PE X (.Compare a [op, op'] [b, c] pos) (te X.K W (wChain o o' wa wb wc)) :=
  PE.imp (pe_chain ho ho' ha hb hc hm) fun _ _ _ h => te_chain hr hr' h
theorem q_tchain {op op' : CmpOp} {r r' : R2} {o o' : O2} {a b c : Expr} {wa wb wc : DE (Kd × D)} {pos : Pos} (ho : OpR X (compareOp op) r) (ho' : OpR X (compareOp op') r') (hr : OkR2 X.K r o) (hr' : OkR2 X.K r' o') (ha : PE X a (te X.K W wa)) (hb : PE X b (te X.K W wb)) (hc : PE X c (te X.K W wc))
    (hm : lastMarks [op, op'] [b, c] = false := by with_unfolding_all rfl) : PT X (.Compare a [op, op'] [b, c] pos) (tt X.K W (wT (wChain o o' wa wb wc))) :=
  PT.imp (pt_chain ho ho' ha hb hc hm) fun _ _ _ h => te_chain hr hr' (tt_T h)
end
end VL

namespace VL
open PySem PySem.Spec PyProof.Rows L2
section
variable {K : PySem.W.Frag} {W : WX} {G G' H H' H0 : Hp} {σ : L2.St} {ρ : Rho} {f f' : Own} {pin : Nat → Option V} {X : Cx} {S S0 S1 T T1 T2 : Sta} {E : En} {Z : Ends}

theorem Lead.to (l : Lead K W S E Z) (t : S.to T) : Lead K W T E Z where
  nx := fun U e ok u => l.nx U e ok (t.trans u)
  bk := fun U e ok u => l.bk U e ok (t.trans u)
  ct := fun U e ok u => l.ct U e ok (t.trans u)
  rt := fun x U e ok u v h => l.rt x U e ok (t.trans u) v (h.from t)
  ex := fun C fl U e ok u dd h => l.ex C fl U e ok (t.trans u) dd h
/-! ### blocks -/
def wNext : DS := fun E ρ => E.nx ρ
def wSeq (a b : DS) : DS := fun E ρ => a { E with nx := b E } ρ
theorem ts_next (h : ts K W wNext Z σ H) : tNext Z σ H := by
  obtain ⟨S, E, rfl, rfl, ok, w, l⟩ := h
  exact l.nx S w ok (Sta.refl S)
theorem ts_seq {a b : DS} (h : ts K W (wSeq a b) Z σ H) : tSeq (ts K W a) (ts K W b) Z σ H := by
  obtain ⟨S, E, rfl, rfl, ok, w, l⟩ := h
  refine ⟨S, _, rfl, rfl, ok, w, ?_⟩
  exact ⟨fun T e okT t => ⟨T, E, rfl, rfl, okT, e, l.to t⟩, l.bk, l.ct, l.rt, l.ex⟩
theorem qs_nil : PSs X [] (ts X.K W wNext) := PSs.imp pss_nil fun _ _ _ h => ts_next h
theorem qs_cons {s : Stmt} {r : List Stmt} {a b : DS} (h : PS X s (ts X.K W a)) (t : PSs X r (ts X.K W b)) : PSs X (s :: r) (ts X.K W (wSeq a b)) := PSs.imp (pss_cons h t) fun _ _ _ h => ts_seq h
theorem qs_one {s : Stmt} {a : DS} (h : PS X s (ts X.K W a)) : PSs X [s] (ts X.K W a) := pss_one h
def wBreak : DS := fun E ρ => E.bk ρ
def wCont : DS := fun E ρ => E.ct ρ
/-- an expression within a statement -/
theorem te_in {we : DE (Kd × D)} {P : List Nat → Kd × D → Rho → Prop} {Q : VK} (ok : S.ok K) (l : Lead K W S E Z) (w : we S.ρ ⟨P, E.ex⟩)
    (k : ∀ p x (T : Sta), P p x T.ρ → T.σ = S.σ → T.ok K → S.to T → Tch p S T → ∀ v : V, Has K S T x.1 v x.2 → Q v T.H) : te K W we S.σ S.H Q :=
  ⟨S, ⟨P, E.ex⟩, rfl, rfl, ok, w, k, fun C fl T e es okT tT dd hd => es ▸ l.ex C fl T e okT tT dd hd⟩
def wDrop (we : DE (Kd × D)) : DS := fun E ρ => we ρ ⟨fun _ _ ρ' => E.nx ρ', E.ex⟩
theorem ts_drop {we : DE (Kd × D)} (h : ts K W (wDrop we) Z σ H) : tDrop (te K W we) Z σ H := by
  obtain ⟨S, E, rfl, rfl, ok, w, l⟩ := h
  exact te_in ok l w fun p x T e es okT t _ v _ => es ▸ l.nx T e okT t
theorem q_expr {e : Expr} {we : DE (Kd × D)} {pos : Pos} (he : PE X e (te X.K W we)) (hs : swapsWith e none pos.line X.env = pure false := by rfl) : PS X (.Expr e pos) (ts X.K W (wDrop we)) := PS.imp (ps_expr he hs) fun _ _ _ h => ts_drop h
def wRet (we : DE (Kd × D)) : DS := fun E ρ => we ρ ⟨fun _ x ρ' => E.rt x ρ', E.ex⟩
theorem ts_ret {we : DE (Kd × D)} (h : ts K W (wRet we) Z σ H) : tRet (te K W we) Z σ H := by
  obtain ⟨S, E, rfl, rfl, ok, w, l⟩ := h
  exact te_in ok l w fun p x T e es okT t _ v hv => l.rt x T e okT t v hv
theorem q_ret {e : Expr} {we : DE (Kd × D)} {pos : Pos} (he : PE X e (te X.K W we)) : PS X (.Return (some e) pos) (ts X.K W (wRet we)) := PS.imp (ps_ret he) fun _ _ _ h => ts_ret h
def wRetN : DS := fun E ρ => E.rt (.fz, .non) ρ
def wIfS (c : DE Bool) (a b : DS) : DS := fun E ρ => c ρ ⟨fun _ k ρ' => match k with
  | true => a E ρ'
  | false => b E ρ', E.ex⟩
theorem ts_if {c : DE Bool} {a b : DS} (h : ts K W (wIfS c a b) Z σ H) : tIfS (tt K W c) (ts K W a) (ts K W b) Z σ H := by
  obtain ⟨S, E, rfl, rfl, ok, w, l⟩ := h
  unfold wIfS at w
  refine ⟨S, _, rfl, rfl, ok, w, fun p k T e es okT t _ v hv => ?_, fun C fl T e es okT tT dd hd => es ▸ l.ex C fl T e okT tT dd hd⟩
  subst hv
  cases v with
  | true => exact ⟨T, E, es, rfl, okT, e, l.to t⟩
  | false => exact ⟨T, E, es, rfl, okT, e, l.to t⟩
theorem q_ifs {c : Expr} {a b : List Stmt} {wc : DE Bool} {wa wb : DS} {pos : Pos} (hc : PT X c (tt X.K W wc)) (ha : PSs X a (ts X.K W wa)) (hb : PSs X b (ts X.K W wb)) : PS X (.If c a b pos) (ts X.K W (wIfS wc wa wb)) := PS.imp (ps_if hc ha hb) fun _ _ _ h => ts_if h
/-- a way that is never taken -/
def wNever : DS := fun _ _ => False
/-! ### a slot is stored -/
def okSlot : Rho → Nat → Bool
  | [], _ => false
  | x :: _, 0 => match x with
    | some (.P _, _) => false
    | _ => true
  | _ :: r, n + 1 => okSlot r n
theorem okSlot_lt : ∀ {ρ : Rho} {i : Nat}, okSlot ρ i = true → i < ρ.length
  | [], _, h => by cases h
  | _ :: _, 0, _ => Nat.zero_lt_succ _
  | _ :: r, n + 1, h => Nat.succ_lt_succ (okSlot_lt (ρ := r) h)
def notP : Md → Bool
  | .P _ => false
  | _ => true
theorem Sx.put (S : Sx K pin G H σ ρ f) {i : Nat} {m : Md} {v : V} {d : D} {fp : List Addr} (hi : okSlot ρ i = true) (hm : notP m = true) (r : R K G H m v d fp) (n : fp.Nodup) (k : ∀ a ∈ fp, G a = none ∧ (Ow f a → a ∈ f i)) :
    Sx K pin G H (σ.set i (some v)) (ρ.set i (some (m, d))) (f.set i fp) where
  ext := S.ext
  len := by simp [S.len]
  slot := fun j m' d' e => by
    by_cases c : j = i
    · subst c
      rw [List.getElem?_set_self (okSlot_lt hi)] at e
      cases e
      refine ⟨v, ?_, ?_⟩
      · rw [List.getElem?_set_self (by rw [← S.len]; exact okSlot_lt hi)]
      · rw [Own.set_same]; exact r
    · rw [List.getElem?_set_ne (Ne.symm c)] at e
      obtain ⟨u, h1, h2⟩ := S.slot j m' d' e
      exact ⟨u, by rw [List.getElem?_set_ne (Ne.symm c)]; exact h1, by rw [Own.set_ne c]; exact h2⟩
  emp := fun j e => by
    by_cases c : j = i
    · subst c
      exact absurd (List.getElem?_set_self (okSlot_lt hi)) (e m d)
    · rw [Own.set_ne c]
      exact S.emp j fun m' d' q => e m' d' (by rw [List.getElem?_set_ne (Ne.symm c)]; exact q)
  nd := fun j => by
    by_cases c : j = i
    · subst c; rw [Own.set_same]; exact n
    · rw [Own.set_ne c]; exact S.nd j
  dj := fun j j' a h h' => by
    by_cases c : j = i
    · subst c
      by_cases c' : j' = j
      · exact c'.symm
      · rw [Own.set_same] at h
        rw [Own.set_ne c'] at h'
        exact S.dj _ _ a ((k a h).2 ⟨j', h'⟩) h'
    · rw [Own.set_ne c] at h
      by_cases c' : j' = i
      · subst c'
        rw [Own.set_same] at h'
        exact S.dj _ _ a h ((k a h').2 ⟨j, h⟩)
      · rw [Own.set_ne c'] at h'
        exact S.dj _ _ a h h'
  out := fun j a h => by
    by_cases c : j = i
    · subst c; rw [Own.set_same] at h; exact (k a h).1
    · rw [Own.set_ne c] at h; exact S.out j a h
  pins := fun j m' d' e => by
    by_cases c : j = i
    · subst c
      rw [List.getElem?_set_self (okSlot_lt hi)] at e
      cases e
      cases hm
    · rw [List.getElem?_set_ne (Ne.symm c)] at e
      obtain ⟨u, h1, h2⟩ := S.pins j m' d' e
      exact ⟨u, h1, by rw [List.getElem?_set_ne (Ne.symm c)]; exact h2⟩
/-- a slot is forgotten -/
theorem Sx.forget (S : Sx K pin G H σ ρ f) (i : Nat) : Sx K pin G H σ (ρ.set i none) (f.set i []) where
  ext := S.ext
  len := by simp [S.len]
  slot := fun j m' d' e => by
    by_cases c : j = i
    · subst c
      by_cases l : j < ρ.length
      · rw [List.getElem?_set_self l] at e; cases e
      · rw [List.getElem?_eq_none (by simpa using l)] at e; cases e
    · rw [List.getElem?_set_ne (Ne.symm c)] at e
      rw [Own.set_ne c]
      exact S.slot j m' d' e
  emp := fun j e => by
    by_cases c : j = i
    · subst c; exact Own.set_same
    · rw [Own.set_ne c]
      exact S.emp j fun m' d' q => e m' d' (by rw [List.getElem?_set_ne (Ne.symm c)]; exact q)
  nd := fun j => by
    by_cases c : j = i
    · subst c; rw [Own.set_same]; exact List.nodup_nil
    · rw [Own.set_ne c]; exact S.nd j
  dj := fun j j' a h h' => by
    by_cases c : j = i
    · subst c; rw [Own.set_same] at h; cases h
    · by_cases c' : j' = i
      · subst c'; rw [Own.set_same] at h'; cases h'
      · rw [Own.set_ne c] at h; rw [Own.set_ne c'] at h'; exact S.dj _ _ a h h'
  out := fun j a h => by
    by_cases c : j = i
    · subst c; rw [Own.set_same] at h; cases h
    · rw [Own.set_ne c] at h; exact S.out j a h
  pins := fun j m' d' e => by
    by_cases c : j = i
    · subst c
      by_cases l : j < ρ.length
      · rw [List.getElem?_set_self l] at e; cases e
      · rw [List.getElem?_eq_none (by simpa using l)] at e; cases e
    · rw [List.getElem?_set_ne (Ne.symm c)] at e
      exact S.pins j m' d' e
def Sta.put (T : Sta) (i : Nat) (v : V) (m : Md) (d : D) (fp : List Addr) : Sta := { T with σ := T.σ.set i (some v), ρ := T.ρ.set i (some (m, d)), f := T.f.set i fp }
theorem Sta.to.put (t : S.to T) {i : Nat} {v : V} {m : Md} {d : D} {fp : List Addr} (k : ∀ a ∈ fp, Nw S a) : S.to (T.put i v m d fp) where
  stp := {
    gext := t.stp.gext
    keep := t.stp.keep
    gold := t.stp.gold
    fnew := fun a h => by
      obtain ⟨j, hj⟩ := h
      by_cases c : j = i
      · subst c
        have hj' : a ∈ T.f.set j fp j := hj
        rw [Own.set_same] at hj'; exact k a hj'
      · have hj' : a ∈ T.f.set i fp j := hj
        rw [Own.set_ne c] at hj'; exact t.stp.fnew a ⟨j, hj'⟩
    trk := t.stp.trk }
  pin := t.pin
def putK (i : Nat) (x : Kd × D) (ρ : Rho) (q : Rho → Prop) : Prop := match x.1 with
  | .fz => q (ρ.set i (some (.F, x.2)))
  | .new m => notP m = true ∧ q (ρ.set i (some (m, x.2)))
  | .bor _ _ _ => False
def wSet (i : Nat) (we : DE (Kd × D)) : DS := fun E ρ => we ρ ⟨fun _ x ρ' => okSlot ρ' i = true ∧ putK i x ρ' E.nx, E.ex⟩
theorem ts_set {i : Nat} {we : DE (Kd × D)} (h : ts K W (wSet i we) Z σ H) : tAsg (te K W we) (gName i) Z σ H := by
  obtain ⟨S, E, rfl, rfl, ok, w, l⟩ := h
  refine te_in ok l w fun p x T e es okT t _ v hv => ?_
  obtain ⟨kd, d⟩ := x
  show Z.nx (S.σ.set i (some v)) T.H
  rw [← es]
  cases kd with
  | fz => exact l.nx (T.put i v .F d []) e.2 (Sx.put okT e.1 rfl (.F hv) List.nodup_nil fun _ h => nomatch h) (t.put fun _ h => nomatch h)
  | new m =>
    obtain ⟨fp, r, n, k⟩ := hv
    exact l.nx (T.put i v m d fp) e.2.2 (Sx.put okT e.1 e.2.1 r n fun a h => ⟨(k a h).1, fun z => absurd z (k a h).2.1⟩) (t.put fun a h => (k a h).2.2)
  | bor j q m => exact e.2.elim
theorem q_set {i : Nat} {x : Str} {e : Expr} {we : DE (Kd × D)} {pos pos' : Pos} (hN : X.N.Nodup) (he : PE X e (te X.K W we)) (hi : X.N[i]? = some x := by rfl) (hx : Loc X.env.scope x := by first | exact Or.inl rfl | exact Or.inr rfl) (hs : swapsWith e (some (.Name x pos')) pos.line X.env = pure false := by rfl) (hf : X.fn x = true ∨ X.env.scope.names.lookup x = some .local := by first | exact .inl rfl | exact .inr rfl | assumption) :
    PS X (.Assign [.Name x pos'] e pos) (ts X.K W (wSet i we)) := PS.imp (ps_set hN hi hx he hs hf) fun _ _ _ h => ts_set h
/-- x op= e -/
def wAug (i : Nat) (o : O2) (we : DE (Kd × D)) : DS := wSet i (wOp o (wVar i) we)
end
end VL

namespace VL
open PySem PySem.Spec PyProof.Rows L2
section
variable {K : PySem.W.Frag} {W : WX} {G G' H H' H0 : Hp} {σ : L2.St} {ρ : Rho} {f f' : Own} {pin : Nat → Option V} {X : Cx} {S S0 S1 T T1 T2 U : Sta} {E : En} {Z : Ends}

/-! ### a part of an owned thing is changed -/
theorem RA.lens {m : Md} : ∀ {xs : List V} {ds : List D} {fp : List Addr} {j : Nat} {x : V} {d : D}, RA K G H m xs ds fp → fp.Nodup → xs[j]? = some x → ds[j]? = some d →
    ∃ fq, R K G H m x d fq ∧ fq.Nodup ∧ (∀ a ∈ fq, a ∈ fp) ∧ ∀ (G' H' : Hp) (d' : D) (fq' : List Addr), Ex G G' → (∀ a ∈ fp, a ∉ fq → H' a = H a) → R K G' H' m x d' fq' → fq'.Nodup → (∀ a ∈ fq', a ∈ fq ∨ a ∉ fp) →
      ∃ fr, RA K G' H' m xs (ds.set j d') fr ∧ fr.Nodup ∧ ∀ a ∈ fr, (a ∈ fp ∧ a ∉ fq) ∨ a ∈ fq'
  | _, _, _, _, _, _, .nil, _, h, _ => by simp at h
  | _, _, _, 0, _, _, .cons (fp := fp) (fq := fq) r t, n, h, h' => by
    simp at h h'; subst h; subst h'
    have n' := List.nodup_append.mp n
    refine ⟨fp, r, n'.1, fun a ha => List.mem_append_left _ ha, fun G' H' d' fq' e k r' nq hq => ?_⟩
    have kt : ∀ a ∈ fq, ∀ o, H a = some o → H' a = some o := fun a ha o q => by
      rw [k a (List.mem_append_right _ ha) fun z => n'.2.2 a z a ha rfl]; exact q
    refine ⟨fq' ++ fq, .cons r' (t.keep e kt), List.nodup_append.mpr ⟨nq, n'.2.1, fun a ha b hb c => ?_⟩, fun a ha => ?_⟩
    · subst c
      rcases hq a ha with z | z
      · exact n'.2.2 a z a hb rfl
      · exact z (List.mem_append_right _ hb)
    · rcases List.mem_append.mp ha with z | z
      · exact .inr z
      · exact .inl ⟨List.mem_append_right _ z, fun c => n'.2.2 a c a z rfl⟩
  | _, _, _, j + 1, _, _, .cons (fp := fp) (fq := fq) r t, n, h, h' => by
    have n' := List.nodup_append.mp n
    obtain ⟨fs, r1, n1, s1, k1⟩ := RA.lens t n'.2.1 (j := j) (by simpa using h) (by simpa using h')
    refine ⟨fs, r1, n1, fun a ha => List.mem_append_right _ (s1 a ha), fun G' H' d' fq' e k r' nq hq => ?_⟩
    obtain ⟨fr, r2, n2, s2⟩ := k1 G' H' d' fq' e (fun a ha hn => k a (List.mem_append_right _ ha) hn) r' nq (fun a ha => (hq a ha).imp_right fun z c => z (List.mem_append_right _ c))
    have kt : ∀ a ∈ fp, ∀ o, H a = some o → H' a = some o := fun a ha o q => by
      rw [k a (List.mem_append_left _ ha) fun z => n'.2.2 a ha a (s1 a z) rfl]; exact q
    refine ⟨fp ++ fr, .cons (r.keep e kt) r2, List.nodup_append.mpr ⟨n'.1, n2, fun a ha b hb c => ?_⟩, fun a ha => ?_⟩
    · subst c
      rcases s2 a hb with z | z
      · exact n'.2.2 a ha a z.1 rfl
      · rcases hq a z with q | q
        · exact n'.2.2 a ha a (s1 a q) rfl
        · exact q (List.mem_append_left _ ha)
    · rcases List.mem_append.mp ha with z | z
      · exact .inl ⟨List.mem_append_left _ z, fun c => n'.2.2 a z a (s1 a c) rfl⟩
      · exact (s2 a z).imp_left fun q => ⟨List.mem_append_right _ q.1, q.2⟩
theorem names_mod {β γ : Type} : ∀ {ds : List (β × γ)} {j : Nat} {d' : γ}, (ds.modify j fun y => (y.1, d')).map (·.1) = ds.map (·.1)
  | [], j, _ => by cases j <;> rfl
  | _ :: _, 0, _ => rfl
  | x :: ds, j + 1, d' => by simp [List.modify_succ_cons, names_mod (ds := ds)]
theorem RS.lens : ∀ {ms : List Md} {xs : List V} {ds : List D} {fp : List Addr} {j : Nat} {m : Md} {x : V} {d : D}, RS K G H ms xs ds fp → fp.Nodup → ms[j]? = some m → xs[j]? = some x → ds[j]? = some d →
    ∃ fq, R K G H m x d fq ∧ fq.Nodup ∧ (∀ a ∈ fq, a ∈ fp) ∧ ∀ (G' H' : Hp) (d' : D) (fq' : List Addr), Ex G G' → (∀ a ∈ fp, a ∉ fq → H' a = H a) → R K G' H' m x d' fq' → fq'.Nodup → (∀ a ∈ fq', a ∈ fq ∨ a ∉ fp) →
      ∃ fr, RS K G' H' ms xs (ds.set j d') fr ∧ fr.Nodup ∧ ∀ a ∈ fr, (a ∈ fp ∧ a ∉ fq) ∨ a ∈ fq'
  | _, _, _, _, _, _, _, _, .nil, _, h, _, _ => by simp at h
  | _, _, _, _, 0, _, _, _, .cons (fp := fp) (fq := fq) r t, n, h0, h, h' => by
    simp at h0 h h'
    subst h0; subst h; subst h'
    have n' := List.nodup_append.mp n
    refine ⟨fp, r, n'.1, fun a ha => List.mem_append_left _ ha, fun G' H' d' fq' e k r' nq hq => ?_⟩
    have kt : ∀ a ∈ fq, ∀ o, H a = some o → H' a = some o := fun a ha o q => by
      rw [k a (List.mem_append_right _ ha) fun z => n'.2.2 a z a ha rfl]; exact q
    refine ⟨fq' ++ fq, by simpa using RS.cons r' (t.keep e kt), List.nodup_append.mpr ⟨nq, n'.2.1, fun a ha b hb c => ?_⟩, fun a ha => ?_⟩
    · subst c
      rcases hq a ha with z | z
      · exact n'.2.2 a z a hb rfl
      · exact z (List.mem_append_right _ hb)
    · rcases List.mem_append.mp ha with z | z
      · exact .inr z
      · exact .inl ⟨List.mem_append_right _ z, fun c => n'.2.2 a c a z rfl⟩
  | _, _, _, _, j + 1, _, _, _, .cons (fp := fp) (fq := fq) r t, n, h0, h, h' => by
    have n' := List.nodup_append.mp n
    obtain ⟨fs, r1, n1, s1, k1⟩ := RS.lens t n'.2.1 (j := j) (by simpa using h0) (by simpa using h) (by simpa using h')
    refine ⟨fs, r1, n1, fun a ha => List.mem_append_right _ (s1 a ha), fun G' H' d' fq' e k r' nq hq => ?_⟩
    obtain ⟨fr, r2, n2, s2⟩ := k1 G' H' d' fq' e (fun a ha hn => k a (List.mem_append_right _ ha) hn) r' nq (fun a ha => (hq a ha).imp_right fun z c => z (List.mem_append_right _ c))
    have kt : ∀ a ∈ fp, ∀ o, H a = some o → H' a = some o := fun a ha o q => by
      rw [k a (List.mem_append_left _ ha) fun z => n'.2.2 a ha a (s1 a z) rfl]; exact q
    refine ⟨fp ++ fr, by simpa using RS.cons (r.keep e kt) r2, List.nodup_append.mpr ⟨n'.1, n2, fun a ha b hb c => ?_⟩, fun a ha => ?_⟩
    · subst c
      rcases s2 a hb with z | z
      · exact n'.2.2 a ha a z.1 rfl
      · rcases hq a z with q | q
        · exact n'.2.2 a ha a (s1 a q) rfl
        · exact q (List.mem_append_left _ ha)
    · rcases List.mem_append.mp ha with z | z
      · exact .inl ⟨List.mem_append_left _ z, fun c => n'.2.2 a z a (s1 a c) rfl⟩
      · exact (s2 a z).imp_left fun q => ⟨List.mem_append_right _ q.1, q.2⟩
theorem RF.lens : ∀ {ms : List Md} {xs : List (Str × V)} {ds : List (Str × D)} {fp : List Addr} {j : Nat} {m : Md} {k k' : Str} {x : V} {d : D}, RF K G H ms xs ds fp → fp.Nodup → ms[j]? = some m → xs[j]? = some (k, x) → ds[j]? = some (k', d) →
    ∃ fq, R K G H m x d fq ∧ fq.Nodup ∧ (∀ a ∈ fq, a ∈ fp) ∧ ∀ (G' H' : Hp) (d' : D) (fq' : List Addr), Ex G G' → (∀ a ∈ fp, a ∉ fq → H' a = H a) → R K G' H' m x d' fq' → fq'.Nodup → (∀ a ∈ fq', a ∈ fq ∨ a ∉ fp) →
      ∃ fr, RF K G' H' ms xs (ds.modify j fun y => (y.1, d')) fr ∧ fr.Nodup ∧ ∀ a ∈ fr, (a ∈ fp ∧ a ∉ fq) ∨ a ∈ fq'
  | _, _, _, _, _, _, _, _, _, _, .nil, _, h, _, _ => by simp at h
  | _, _, _, _, 0, _, _, _, _, _, .cons (fp := fp) (fq := fq) r t, n, h0, h, h' => by
    simp at h0 h h'
    obtain ⟨rfl, rfl⟩ := h
    obtain ⟨rfl, rfl⟩ := h'
    subst h0
    have n' := List.nodup_append.mp n
    refine ⟨fp, r, n'.1, fun a ha => List.mem_append_left _ ha, fun G' H' d' fq' e k r' nq hq => ?_⟩
    have kt : ∀ a ∈ fq, ∀ o, H a = some o → H' a = some o := fun a ha o q => by
      rw [k a (List.mem_append_right _ ha) fun z => n'.2.2 a z a ha rfl]; exact q
    refine ⟨fq' ++ fq, by simpa using RF.cons r' (t.keep e kt), List.nodup_append.mpr ⟨nq, n'.2.1, fun a ha b hb c => ?_⟩, fun a ha => ?_⟩
    · subst c
      rcases hq a ha with z | z
      · exact n'.2.2 a z a hb rfl
      · exact z (List.mem_append_right _ hb)
    · rcases List.mem_append.mp ha with z | z
      · exact .inr z
      · exact .inl ⟨List.mem_append_right _ z, fun c => n'.2.2 a c a z rfl⟩
  | _, _, _, _, j + 1, _, _, _, _, _, .cons (fp := fp) (fq := fq) r t, n, h0, h, h' => by
    have n' := List.nodup_append.mp n
    obtain ⟨fs, r1, n1, s1, k1⟩ := RF.lens t n'.2.1 (j := j) (by simpa using h0) (by simpa using h) (by simpa using h')
    refine ⟨fs, r1, n1, fun a ha => List.mem_append_right _ (s1 a ha), fun G' H' d' fq' e k r' nq hq => ?_⟩
    obtain ⟨fr, r2, n2, s2⟩ := k1 G' H' d' fq' e (fun a ha hn => k a (List.mem_append_right _ ha) hn) r' nq (fun a ha => (hq a ha).imp_right fun z c => z (List.mem_append_right _ c))
    have kt : ∀ a ∈ fp, ∀ o, H a = some o → H' a = some o := fun a ha o q => by
      rw [k a (List.mem_append_left _ ha) fun z => n'.2.2 a ha a (s1 a z) rfl]; exact q
    refine ⟨fp ++ fr, by simpa using RF.cons (r.keep e kt) r2, List.nodup_append.mpr ⟨n'.1, n2, fun a ha b hb c => ?_⟩, fun a ha => ?_⟩
    · subst c
      rcases s2 a hb with z | z
      · exact n'.2.2 a ha a z.1 rfl
      · rcases hq a z with q | q
        · exact n'.2.2 a ha a (s1 a q) rfl
        · exact q (List.mem_append_left _ ha)
    · rcases List.mem_append.mp ha with z | z
      · exact .inl ⟨List.mem_append_left _ z, fun c => n'.2.2 a z a (s1 a c) rfl⟩
      · exact (s2 a z).imp_left fun q => ⟨List.mem_append_right _ q.1, q.2⟩
theorem RK.lens : ∀ {m : Md} {xs : List (Key × V)} {ds : List (Key × D)} {fp : List Addr} {j : Nat} {k k' : Key} {x : V} {d : D}, RK K G H m xs ds fp → fp.Nodup → xs[j]? = some (k, x) → ds[j]? = some (k', d) →
    ∃ fq, R K G H m x d fq ∧ fq.Nodup ∧ (∀ a ∈ fq, a ∈ fp) ∧ ∀ (G' H' : Hp) (d' : D) (fq' : List Addr), Ex G G' → (∀ a ∈ fp, a ∉ fq → H' a = H a) → R K G' H' m x d' fq' → fq'.Nodup → (∀ a ∈ fq', a ∈ fq ∨ a ∉ fp) →
      ∃ fr, RK K G' H' m xs (ds.modify j fun y => (y.1, d')) fr ∧ fr.Nodup ∧ ∀ a ∈ fr, (a ∈ fp ∧ a ∉ fq) ∨ a ∈ fq'
  | _, _, _, _, _, _, _, _, _, .nil, _, h, _ => by simp at h
  | _, _, _, _, 0, _, _, _, _, .cons (fp := fp) (fq := fq) r t, n, h, h' => by
    simp at h h'
    obtain ⟨rfl, rfl⟩ := h
    obtain ⟨rfl, rfl⟩ := h'
    have n' := List.nodup_append.mp n
    refine ⟨fp, r, n'.1, fun a ha => List.mem_append_left _ ha, fun G' H' d' fq' e k r' nq hq => ?_⟩
    have kt : ∀ a ∈ fq, ∀ o, H a = some o → H' a = some o := fun a ha o q => by
      rw [k a (List.mem_append_right _ ha) fun z => n'.2.2 a z a ha rfl]; exact q
    refine ⟨fq' ++ fq, by simpa using RK.cons r' (t.keep e kt), List.nodup_append.mpr ⟨nq, n'.2.1, fun a ha b hb c => ?_⟩, fun a ha => ?_⟩
    · subst c
      rcases hq a ha with z | z
      · exact n'.2.2 a z a hb rfl
      · exact z (List.mem_append_right _ hb)
    · rcases List.mem_append.mp ha with z | z
      · exact .inr z
      · exact .inl ⟨List.mem_append_right _ z, fun c => n'.2.2 a c a z rfl⟩
  | _, _, _, _, j + 1, _, _, _, _, .cons (fp := fp) (fq := fq) r t, n, h, h' => by
    have n' := List.nodup_append.mp n
    obtain ⟨fs, r1, n1, s1, k1⟩ := RK.lens t n'.2.1 (j := j) (by simpa using h) (by simpa using h')
    refine ⟨fs, r1, n1, fun a ha => List.mem_append_right _ (s1 a ha), fun G' H' d' fq' e k r' nq hq => ?_⟩
    obtain ⟨fr, r2, n2, s2⟩ := k1 G' H' d' fq' e (fun a ha hn => k a (List.mem_append_right _ ha) hn) r' nq (fun a ha => (hq a ha).imp_right fun z c => z (List.mem_append_right _ c))
    have kt : ∀ a ∈ fp, ∀ o, H a = some o → H' a = some o := fun a ha o q => by
      rw [k a (List.mem_append_left _ ha) fun z => n'.2.2 a ha a (s1 a z) rfl]; exact q
    refine ⟨fp ++ fr, by simpa using RK.cons (r.keep e kt) r2, List.nodup_append.mpr ⟨n'.1, n2, fun a ha b hb c => ?_⟩, fun a ha => ?_⟩
    · subst c
      rcases s2 a hb with z | z
      · exact n'.2.2 a ha a z.1 rfl
      · rcases hq a z with q | q
        · exact n'.2.2 a ha a (s1 a q) rfl
        · exact q (List.mem_append_left _ ha)
    · rcases List.mem_append.mp ha with z | z
      · exact .inl ⟨List.mem_append_left _ z, fun c => n'.2.2 a z a (s1 a c) rfl⟩
      · exact (s2 a z).imp_left fun q => ⟨List.mem_append_right _ q.1, q.2⟩
theorem R.lens : ∀ (xt : Ex G H) {p : List Nat} {m0 m : Md} {v0 v : V} {d0 d : D} {fp : List Addr}, R K G H m0 v0 d0 fp → fp.Nodup → Rch H v0 p v → mAt m0 p = some m → dAt d0 p = some d →
    ∃ fq, R K G H m v d fq ∧ fq.Nodup ∧ (∀ a ∈ fq, a ∈ fp) ∧ ∀ (G' H' : Hp) (d' : D) (fq' : List Addr), Ex G G' → (∀ a ∈ fp, a ∉ fq → H' a = H a) → R K G' H' m v d' fq' → fq'.Nodup → (∀ a ∈ fq', a ∈ fq ∨ a ∉ fp) →
      ∃ fr, R K G' H' m0 v0 (dSet d0 p d') fr ∧ fr.Nodup ∧ ∀ a ∈ fr, (a ∈ fp ∧ a ∉ fq) ∨ a ∈ fq'
  | xt, [], _, _, _, _, _, _, _, r, n, c, e1, e2 => by
    cases c
    cases e1; cases e2
    exact ⟨_, r, n, fun _ h => h, fun G' H' d' fq' _ _ r' nq _ => ⟨fq', r', nq, fun _ h => .inr h⟩⟩
  | xt, j :: p, m0, m, v0, v, d0, d, fp, r, n, c, e1, e2 => by
    cases c with
    | @lst a _ _ _ _ _ h i t =>
      cases r with
      | F h => simp [mAt, mKid] at e1
      | P h => simp [mAt, mKid] at e1
      | K h t => rename_i h' _ _ _; rw [h] at h'; cases h'
      | N h' t' => rw [h] at h'; cases h'
      | M h' t' => rw [h] at h'; cases h'
      | O h' n' t' => rw [h] at h'; cases h'
      | T h' t' => have h' := xt _ _ h'; rw [h] at h'; cases h'
      | A h' t' =>
        rw [h] at h'; cases h'
        simp only [mAt, mKid] at e1
        simp only [dAt, dKid] at e2
        have nn := List.nodup_cons.mp n
        split at e1
        · rename_i m1 em
          split at e2
          · rename_i d1 ed
            obtain ⟨fq, r1, n1, s1, k1⟩ := RS.lens t' nn.2 em i ed
            obtain ⟨fs, r2, n2, s2, k2⟩ := R.lens xt r1 n1 t e1 e2
            refine ⟨fs, r2, n2, fun b hb => List.mem_cons_of_mem _ (s1 b (s2 b hb)), fun G' H' d' fq' e k r' nq hq => ?_⟩
            obtain ⟨fr, r3, n3, s3⟩ := k2 G' H' d' fq' e (fun b hb hn => k b (List.mem_cons_of_mem _ (s1 b hb)) hn) r' nq (fun b hb => (hq b hb).imp_right fun z c => z (List.mem_cons_of_mem _ (s1 b c)))
            obtain ⟨ft, r4, n4, s4⟩ := k1 G' H' _ fr e (fun b hb hn => k b (List.mem_cons_of_mem _ hb) fun z => hn (s2 b z)) r3 n3 (fun b hb => by
              rcases s3 b hb with z | z
              · exact .inl z.1
              · rcases hq b z with q | q
                · exact .inl (s2 b q)
                · exact .inr fun c => q (List.mem_cons_of_mem _ c))
            have ha : H' a = H a := k a List.mem_cons_self fun z => nn.1 (s1 a (s2 a z))
            refine ⟨a :: ft, ?_, List.nodup_cons.mpr ⟨fun z => ?_, n4⟩, fun b hb => ?_⟩
            · simp only [dSet, dKid, ed, setKid]
              exact .A (by rw [ha]; exact h) r4
            · rcases s4 a z with q | q
              · exact nn.1 q.1
              · rcases s3 a q with q | q
                · exact nn.1 (s1 a q.1)
                · rcases hq a q with q | q
                  · exact nn.1 (s1 a (s2 a q))
                  · exact q List.mem_cons_self
            · rcases List.mem_cons.mp hb with rfl | hb
              · exact .inl ⟨List.mem_cons_self, fun z => nn.1 (s1 _ (s2 _ z))⟩
              · rcases s4 b hb with q | q
                · exact .inl ⟨List.mem_cons_of_mem _ q.1, fun z => q.2 (s2 b z)⟩
                · exact (s3 b q).imp_left fun q => ⟨List.mem_cons_of_mem _ (s1 b q.1), q.2⟩
          · cases e2
        · cases e1
      | L h' t' =>
        rw [h] at h'; cases h'
        simp only [mAt, mKid] at e1
        simp only [dAt, dKid] at e2
        have nn := List.nodup_cons.mp n
        split at e2
        · rename_i d1 ed
          obtain ⟨fq, r1, n1, s1, k1⟩ := RA.lens t' nn.2 i ed
          obtain ⟨fs, r2, n2, s2, k2⟩ := R.lens xt r1 n1 t e1 e2
          refine ⟨fs, r2, n2, fun b hb => List.mem_cons_of_mem _ (s1 b (s2 b hb)), fun G' H' d' fq' e k r' nq hq => ?_⟩
          obtain ⟨fr, r3, n3, s3⟩ := k2 G' H' d' fq' e (fun b hb hn => k b (List.mem_cons_of_mem _ (s1 b hb)) hn) r' nq (fun b hb => (hq b hb).imp_right fun z c => z (List.mem_cons_of_mem _ (s1 b c)))
          obtain ⟨ft, r4, n4, s4⟩ := k1 G' H' _ fr e (fun b hb hn => k b (List.mem_cons_of_mem _ hb) fun z => hn (s2 b z)) r3 n3 (fun b hb => by
            rcases s3 b hb with z | z
            · exact .inl z.1
            · rcases hq b z with q | q
              · exact .inl (s2 b q)
              · exact .inr fun c => q (List.mem_cons_of_mem _ c))
          have ha : H' a = H a := k a List.mem_cons_self fun z => nn.1 (s1 a (s2 a z))
          refine ⟨a :: ft, ?_, List.nodup_cons.mpr ⟨fun z => ?_, n4⟩, fun b hb => ?_⟩
          · simp only [dSet, dKid, ed, setKid]
            exact .L (by rw [ha]; exact h) r4
          · rcases s4 a z with q | q
            · exact nn.1 q.1
            · rcases s3 a q with q | q
              · exact nn.1 (s1 a q.1)
              · rcases hq a q with q | q
                · exact nn.1 (s1 a (s2 a q))
                · exact q List.mem_cons_self
          · rcases List.mem_cons.mp hb with rfl | hb
            · exact .inl ⟨List.mem_cons_self, fun z => nn.1 (s1 _ (s2 _ z))⟩
            · rcases s4 b hb with q | q
              · exact .inl ⟨List.mem_cons_of_mem _ q.1, fun z => q.2 (s2 b z)⟩
              · exact (s3 b q).imp_left fun q => ⟨List.mem_cons_of_mem _ (s1 b q.1), q.2⟩
        · cases e2
    | @ins a _ _ _ _ _ _ _ _ h i t =>
      cases r with
      | F h => simp [mAt, mKid] at e1
      | P h => simp [mAt, mKid] at e1
      | K h t => rename_i h' _ _ _; rw [h] at h'; cases h'
      | N h' t' => rw [h] at h'; cases h'
      | M h' t' => rw [h] at h'; cases h'
      | L h' t' => rw [h] at h'; cases h'
      | T h' t' => have h' := xt _ _ h'; rw [h] at h'; cases h'
      | A h' t' => rw [h] at h'; cases h'
      | O h' n' t' =>
        rw [h] at h'; cases h'
        simp only [mAt, mKid] at e1
        simp only [dAt, dKid] at e2
        have nn := List.nodup_cons.mp n
        split at e1
        · rename_i m1 em
          split at e2
          · rename_i d1 ed
            have ed0 := ed
            split at ed
            · rename_i y ey
              cases ed
              obtain ⟨fq, r1, n1, s1, k1⟩ := RF.lens t' nn.2 em i (show _ = some (y.1, y.2) from ey)
              obtain ⟨fs, r2, n2, s2, k2⟩ := R.lens xt r1 n1 t e1 e2
              refine ⟨fs, r2, n2, fun b hb => List.mem_cons_of_mem _ (s1 b (s2 b hb)), fun G' H' d' fq' e k r' nq hq => ?_⟩
              obtain ⟨fr, r3, n3, s3⟩ := k2 G' H' d' fq' e (fun b hb hn => k b (List.mem_cons_of_mem _ (s1 b hb)) hn) r' nq (fun b hb => (hq b hb).imp_right fun z c => z (List.mem_cons_of_mem _ (s1 b c)))
              obtain ⟨ft, r4, n4, s4⟩ := k1 G' H' _ fr e (fun b hb hn => k b (List.mem_cons_of_mem _ hb) fun z => hn (s2 b z)) r3 n3 (fun b hb => by
                rcases s3 b hb with z | z
                · exact .inl z.1
                · rcases hq b z with q | q
                  · exact .inl (s2 b q)
                  · exact .inr fun c => q (List.mem_cons_of_mem _ c))
              have ha : H' a = H a := k a List.mem_cons_self fun z => nn.1 (s1 a (s2 a z))
              refine ⟨a :: ft, ?_, List.nodup_cons.mpr ⟨fun z => ?_, n4⟩, fun b hb => ?_⟩
              · simp only [dSet, dKid, ed0, setKid]
                exact .O (by rw [ha]; exact h) (by rw [names_mod]; exact n') r4
              · rcases s4 a z with q | q
                · exact nn.1 q.1
                · rcases s3 a q with q | q
                  · exact nn.1 (s1 a q.1)
                  · rcases hq a q with q | q
                    · exact nn.1 (s1 a (s2 a q))
                    · exact q List.mem_cons_self
              · rcases List.mem_cons.mp hb with rfl | hb
                · exact .inl ⟨List.mem_cons_self, fun z => nn.1 (s1 _ (s2 _ z))⟩
                · rcases s4 b hb with q | q
                  · exact .inl ⟨List.mem_cons_of_mem _ q.1, fun z => q.2 (s2 b z)⟩
                  · exact (s3 b q).imp_left fun q => ⟨List.mem_cons_of_mem _ (s1 b q.1), q.2⟩
            · cases ed
          · cases e2
        · cases e1
    | @dK a _ _ _ _ _ _ h i t =>
      cases r with
      | F h => simp [mAt, mKid] at e1
      | P h => simp [mAt, mKid] at e1
      | K h t => simp [mAt, mKid] at e1
      | N h t => simp [mAt, mKid] at e1
      | O h' n' t' => rw [h] at h'; cases h'
      | L h' t' => rw [h] at h'; cases h'
      | T h' t' => have h' := xt _ _ h'; rw [h] at h'; cases h'
      | A h' t' => rw [h] at h'; cases h'
      | M h' t' =>
        rw [h] at h'; cases h'
        simp only [mAt, mKid] at e1
        simp only [dAt, dKid] at e2
        have nn := List.nodup_cons.mp n
        split at e2
        · rename_i d1 ed
          have ed0 := ed
          split at ed
          · rename_i y ey
            cases ed
            obtain ⟨fq, r1, n1, s1, k1⟩ := RK.lens t' nn.2 i (show _ = some (y.1, y.2) from ey)
            obtain ⟨fs, r2, n2, s2, k2⟩ := R.lens xt r1 n1 t e1 e2
            refine ⟨fs, r2, n2, fun b hb => List.mem_cons_of_mem _ (s1 b (s2 b hb)), fun G' H' d' fq' e k r' nq hq => ?_⟩
            obtain ⟨fr, r3, n3, s3⟩ := k2 G' H' d' fq' e (fun b hb hn => k b (List.mem_cons_of_mem _ (s1 b hb)) hn) r' nq (fun b hb => (hq b hb).imp_right fun z c => z (List.mem_cons_of_mem _ (s1 b c)))
            obtain ⟨ft, r4, n4, s4⟩ := k1 G' H' _ fr e (fun b hb hn => k b (List.mem_cons_of_mem _ hb) fun z => hn (s2 b z)) r3 n3 (fun b hb => by
              rcases s3 b hb with z | z
              · exact .inl z.1
              · rcases hq b z with q | q
                · exact .inl (s2 b q)
                · exact .inr fun c => q (List.mem_cons_of_mem _ c))
            have ha : H' a = H a := k a List.mem_cons_self fun z => nn.1 (s1 a (s2 a z))
            refine ⟨a :: ft, ?_, List.nodup_cons.mpr ⟨fun z => ?_, n4⟩, fun b hb => ?_⟩
            · simp only [dSet, dKid, ed0, setKid]
              exact .M (by rw [ha]; exact h) r4
            · rcases s4 a z with q | q
              · exact nn.1 q.1
              · rcases s3 a q with q | q
                · exact nn.1 (s1 a q.1)
                · rcases hq a q with q | q
                  · exact nn.1 (s1 a (s2 a q))
                  · exact q List.mem_cons_self
            · rcases List.mem_cons.mp hb with rfl | hb
              · exact .inl ⟨List.mem_cons_self, fun z => nn.1 (s1 _ (s2 _ z))⟩
              · rcases s4 b hb with q | q
                · exact .inl ⟨List.mem_cons_of_mem _ q.1, fun z => q.2 (s2 b z)⟩
                · exact (s3 b q).imp_left fun q => ⟨List.mem_cons_of_mem _ (s1 b q.1), q.2⟩
          · cases ed
        · cases e2
    | @tup a _ _ _ _ _ h i t =>
      cases r with
      | F h => simp [mAt, mKid] at e1
      | P h => simp [mAt, mKid] at e1
      | K h t => rename_i h' _ _ _; rw [h] at h'; cases h'
      | N h' t' => rw [h] at h'; cases h'
      | M h' t' => rw [h] at h'; cases h'
      | L h' t' => rw [h] at h'; cases h'
      | O h' n' t' => rw [h] at h'; cases h'
      | A h' t' => rw [h] at h'; cases h'
      | T h' t' =>
        have hx := xt _ _ h'
        rw [h] at hx; cases hx
        simp only [mAt, mKid] at e1
        simp only [dAt, dKid] at e2
        split at e1
        · rename_i m1 em
          split at e2
          · rename_i d1 ed
            obtain ⟨fq, r1, n1, s1, k1⟩ := RS.lens t' n em i ed
            obtain ⟨fs, r2, n2, s2, k2⟩ := R.lens xt r1 n1 t e1 e2
            refine ⟨fs, r2, n2, fun b hb => s1 b (s2 b hb), fun G' H' d' fq' e k r' nq hq => ?_⟩
            obtain ⟨fr, r3, n3, s3⟩ := k2 G' H' d' fq' e (fun b hb hn => k b (s1 b hb) hn) r' nq (fun b hb => (hq b hb).imp_right fun z c => z (s1 b c))
            obtain ⟨ft, r4, n4, s4⟩ := k1 G' H' _ fr e (fun b hb hn => k b hb fun z => hn (s2 b z)) r3 n3 (fun b hb => by
              rcases s3 b hb with z | z
              · exact .inl z.1
              · rcases hq b z with q | q
                · exact .inl (s2 b q)
                · exact .inr q)
            refine ⟨ft, ?_, n4, fun b hb => ?_⟩
            · simp only [dSet, dKid, ed, setKid]
              exact .T (e _ _ h') r4
            · rcases s4 b hb with q | q
              · exact .inl ⟨q.1, fun z => q.2 (s2 b z)⟩
              · exact (s3 b q).imp_left fun q => ⟨s1 b q.1, q.2⟩
          · cases e2
        · cases e1
end
end VL

namespace VL
open PySem PySem.Spec PyProof.Rows L2
/-! ### the promise of a def -/
structure Pf where
  ok : Kd × D → List D → Prop
  ex : Addr → List (Str × D) → List D → Prop
abbrev DF := List D → Pf → Prop
def zr : List Md → List D → Rho
  | m :: ms, d :: ds => some (m, d) :: zr ms ds
  | _, _ => []
def retK : Kd → Bool
  | .bor _ _ _ => false
  | _ => true
/-- ms: how the parameters are held ahead, ms' behind: F frozen, P m the caller's own -/
def spV (K : PySem.W.Frag) (ms ms' : List Md) (Wf : DF) : Sp := fun vs H Q E =>
  ∃ (S : Sta) (ds : List D) (P : Pf), S.H = H ∧ S.σ = vs.map some ∧ S.pin = (fun i => vs[i]?) ∧ vs.length = ms.length ∧ ds.length = ms.length ∧ S.ρ = zr ms ds ∧ S.ok K ∧ Wf ds P ∧
    (∀ x ds' (T : Sta), P.ok x ds' → ds'.length = ms'.length → T.σ = vs.map some → T.ρ = zr ms' ds' → T.ok K → S.to T → retK x.1 = true → ∀ v : V, Has K S T x.1 v x.2 → Q v T.H) ∧
    (∀ C fl ds' (T : Sta), P.ex C fl ds' → ds'.length = ms'.length → T.σ = vs.map some → T.ρ = zr ms' ds' → T.ok K → S.to T → ∀ dd : Option Addr, XD K T.G T.H dd fl → E (.ref C) dd T.H)
def finK : List Md → List D → Rho → (List D → Prop) → Prop
  | [], _, _, q => q []
  | .P m :: ms, _ :: ds, some (.P m', d) :: ρ, q => m' = m ∧ finK ms ds ρ fun r => q (d :: r)
  | .F :: ms, d :: ds, _ :: ρ, q => finK ms ds ρ fun r => q (d :: r)
  | _, _, _, _ => False
def mOk : List Md → List Md → Bool
  | [], [] => true
  | .F :: ms, .F :: ms' => mOk ms ms'
  | .P _ :: ms, .P _ :: ms' => mOk ms ms'
  | _, _ => false
def endsOf (ms' : List Md) (ds : List D) (P : Pf) : En where
  nx := fun ρ => finK ms' ds ρ fun ds' => P.ok (.fz, .non) ds'
  rt := fun x ρ => retK x.1 = true ∧ finK ms' ds ρ fun ds' => P.ok x ds'
  bk := fun _ => False
  ct := fun _ => False
  ex := fun C fl ρ => finK ms' ds ρ fun ds' => P.ex C fl ds'
section
variable {K : PySem.W.Frag} {W : WX} {G G' H H' H0 : Hp} {σ : L2.St} {ρ : Rho} {f f' : Own} {pin : Nat → Option V} {X : Cx} {S S0 S1 T T1 T2 U : Sta} {E : En} {Z : Ends}
theorem mOk_len : ∀ {ms ms' : List Md}, mOk ms ms' = true → ms'.length = ms.length
  | [], [], _ => rfl
  | .F :: ms, .F :: ms', h => by simp [mOk_len (ms := ms) (ms' := ms') h]
  | .P _ :: ms, .P _ :: ms', h => by simp [mOk_len (ms := ms) (ms' := ms') h]
theorem zr_get : ∀ {ms : List Md} {ds : List D} {k : Nat} {m : Md} {d : D}, (zr ms ds)[k]? = some (some (m, d)) ↔ ms[k]? = some m ∧ ds[k]? = some d
  | [], _, k, m, d => by simp [zr]
  | _ :: _, [], k, m, d => by simp [zr]
  | m' :: ms, d' :: ds, 0, m, d => by simp [zr]
  | m' :: ms, d' :: ds, k + 1, m, d => by simp [zr]; exact zr_get
theorem zr_len : ∀ {ms : List Md} {ds : List D}, ds.length = ms.length → (zr ms ds).length = ms.length
  | [], [], _ => rfl
  | _ :: ms, _ :: ds, h => by simp [zr, zr_len (ms := ms) (ds := ds) (by simpa using h)]
  | [], _ :: _, h => by simp at h
  | _ :: _, [], h => by simp at h
theorem finK_of : ∀ {ms ms' : List Md} {ds : List D} {ρ : Rho} {q : List D → Prop}, mOk ms ms' = true → finK ms' ds ρ q → ∃ ds', q ds' ∧ ds'.length = ms'.length ∧
    ∀ (k : Nat) (m : Md) (d : D), ms'[k]? = some m → ds'[k]? = some d → (m = .F ∧ ms[k]? = some .F ∧ ds[k]? = some d) ∨ (∃ m1, m = .P m1 ∧ ρ[k]? = some (some (.P m1, d)))
  | [], [], _, _, q, _, h => ⟨[], by simpa [finK] using h, rfl, by simp⟩
  | .F :: ms, .F :: ms', d :: ds, _ :: ρ, q, ho, h => by
    obtain ⟨ds', h1, h2, h3⟩ := finK_of (ms := ms) (ms' := ms') ho (by simpa [finK] using h)
    refine ⟨d :: ds', h1, by simp [h2], fun k m d' e1 e2 => ?_⟩
    cases k with
    | zero => simp at e1 e2; subst e1; subst e2; exact .inl ⟨rfl, rfl, rfl⟩
    | succ k => simpa using h3 k m d' (by simpa using e1) (by simpa using e2)
  | .P m0 :: ms, .P m1 :: ms', _ :: ds, some (.P m2, d) :: ρ, q, ho, h => by
    simp only [finK] at h
    obtain ⟨rfl, h⟩ := h
    obtain ⟨ds', h1, h2, h3⟩ := finK_of (ms := ms) (ms' := ms') ho h
    refine ⟨d :: ds', h1, by simp [h2], fun k m d' e1 e2 => ?_⟩
    cases k with
    | zero => simp at e1 e2; subst e1; subst e2; exact .inr ⟨_, rfl, rfl⟩
    | succ k => simpa using h3 k m d' (by simpa using e1) (by simpa using e2)
/-- the parameters' state behind a body -/
def parF (ms : List Md) (f : Own) : Own := fun k => match ms[k]? with
  | some (.P _) => f k
  | _ => []
theorem parF_sub {ms : List Md} {f : Own} {k : Nat} {a : Addr} (h : a ∈ parF ms f k) : a ∈ f k := by
  unfold parF at h
  split at h
  · exact h
  · cases h
theorem par_ok {ms ms' : List Md} {ds ds' : List D} {vs : List V} (hm : mOk ms ms' = true) (hl : vs.length = ms.length) (hS : S.ok K) (hσ : ∀ (k : Nat) (v : V), vs[k]? = some v → S.σ[k]? = some (some v)) (hρ : ∀ (k : Nat) (m : Md) (d : D), ms[k]? = some m → ds[k]? = some d → S.ρ[k]? = some (some (m, d)))
    (hp : S.pin = fun i => vs[i]?) (hT : T.ok K) (t : S.to T) (h2 : ds'.length = ms'.length)
    (h3 : ∀ (k : Nat) (m : Md) (d : D), ms'[k]? = some m → ds'[k]? = some d → (m = .F ∧ ms[k]? = some .F ∧ ds[k]? = some d) ∨ (∃ m1, m = .P m1 ∧ T.ρ[k]? = some (some (.P m1, d)))) :
    Sx K T.pin T.G T.H (vs.map some) (zr ms' ds') (parF ms' T.f) where
  ext := hT.ext
  len := by rw [zr_len h2, mOk_len hm, List.length_map, hl]
  slot := fun k m d e => by
    obtain ⟨e1, e2⟩ := zr_get.mp e
    have hk : k < vs.length := by
      have := (List.getElem?_eq_some_iff.mp e1).1
      rw [mOk_len hm] at this; omega
    have hv : vs[k]? = some vs[k] := List.getElem?_eq_getElem hk
    refine ⟨vs[k], by rw [List.getElem?_map, hv]; rfl, ?_⟩
    rcases h3 k m d e1 e2 with ⟨rfl, q1, q2⟩ | ⟨m1, rfl, q⟩
    · have : parF ms' T.f k = [] := by unfold parF; rw [e1]
      rw [this]
      obtain ⟨v, hv', r⟩ := hS.slot k _ _ (hρ k _ _ q1 q2)
      rw [hσ k _ hv] at hv'; cases hv'
      exact .F (r.F_inv.1.mono t.stp.gext)
    · have : parF ms' T.f k = T.f k := by unfold parF; rw [e1]
      rw [this]
      obtain ⟨v, hv', r⟩ := hT.slot k _ _ q
      obtain ⟨u, hu, hu'⟩ := hT.pins k _ _ q
      rw [t.pin, hp] at hu
      have hu2 : vs[k]? = some u := hu
      rw [hv] at hu2; cases hu2
      rw [hv'] at hu'; cases hu'
      exact r
  emp := fun k e => by
    unfold parF
    split
    · rename_i m1 e1
      have hk : k < ds'.length := by rw [h2]; exact (List.getElem?_eq_some_iff.mp e1).1
      exact absurd (zr_get.mpr ⟨e1, List.getElem?_eq_getElem hk⟩) (e _ _)
    · rfl
  nd := fun k => by
    unfold parF
    split
    · exact hT.nd k
    · exact List.nodup_nil
  dj := fun i j a h h' => hT.dj i j a (parF_sub h) (parF_sub h')
  out := fun i a h => hT.out i a (parF_sub h)
  pins := fun k m d e => by
    obtain ⟨e1, e2⟩ := zr_get.mp e
    rcases h3 k _ d e1 e2 with ⟨q, _⟩ | ⟨m1, q, q'⟩
    · cases q
    · cases q
      obtain ⟨u, hu, hu'⟩ := hT.pins k _ _ q'
      refine ⟨u, hu, ?_⟩
      rw [t.pin, hp] at hu
      have hu2 : vs[k]? = some u := hu
      rw [List.getElem?_map, hu2]; rfl
theorem Has.par {ms' : List Md} {kd : Kd} {v : V} {d : D} {σ' : L2.St} {ρ' : Rho} (hk : retK kd = true) (h : Has K S T kd v d) : Has K S { T with σ := σ', ρ := ρ', f := parF ms' T.f } kd v d := by
  cases kd with
  | fz => exact h
  | bor i p m => cases hk
  | new m =>
    obtain ⟨fp, r, n, k⟩ := h
    exact ⟨fp, r, n, fun a ha => ⟨(k a ha).1, fun ⟨i, z⟩ => (k a ha).2.1 ⟨i, parF_sub z⟩, (k a ha).2.2⟩⟩
theorem Sta.to.par {ms' : List Md} {σ' : L2.St} {ρ' : Rho} (t : S.to T) : S.to { T with σ := σ', ρ := ρ', f := parF ms' T.f } where
  stp := { gext := t.stp.gext, keep := t.stp.keep, gold := t.stp.gold, fnew := fun a ⟨i, h⟩ => t.stp.fnew a ⟨i, parF_sub h⟩, trk := t.stp.trk }
  pin := t.pin
theorem rep_noneR {n k : Nat} {x : Md × D} : (List.replicate n (none : Option (Md × D)))[k]? ≠ some (some x) := by
  intro h
  rw [List.getElem?_replicate] at h
  split at h <;> cases h
/-- the state at a body's start -/
theorem start_ok {N : List Str} {vs : List V} {ms : List Md} {ds : List D} (hl : vs.length = ms.length) (hd : ds.length = ms.length) (hN : ms.length ≤ N.length) (hS : S.ok K) (hσ : S.σ = vs.map some) (hρ : S.ρ = zr ms ds) :
    Sx K S.pin S.G S.H (L2.start N vs) (zr ms ds ++ List.replicate (N.length - ms.length) none) S.f := by
  have hzl : (zr ms ds).length = ms.length := zr_len hd
  have get : ∀ k m d, (zr ms ds ++ List.replicate (N.length - ms.length) none)[k]? = some (some (m, d)) → (zr ms ds)[k]? = some (some (m, d)) := fun k m d e => by
    by_cases c : k < (zr ms ds).length
    · rw [List.getElem?_append_left c] at e; exact e
    · rw [List.getElem?_append_right (by omega)] at e
      exact absurd e rep_noneR
  have put : ∀ k v, (vs.map some)[k]? = some (some v) → (L2.start N vs)[k]? = some (some v) := fun k v e => by
    unfold L2.start
    rw [List.getElem?_append_left (List.getElem?_eq_some_iff.mp e).1]
    exact e
  exact {
    ext := hS.ext
    len := by unfold L2.start; simp [hzl, hl]
    slot := fun k m d e => by
      obtain ⟨v, h1, r⟩ := hS.slot k m d (by rw [hρ]; exact get k m d e)
      exact ⟨v, put k v (by rw [← hσ]; exact h1), r⟩
    emp := fun k e => hS.emp k fun m d q => e m d (by
      rw [hρ] at q
      rw [List.getElem?_append_left (List.getElem?_eq_some_iff.mp q).1]; exact q)
    nd := hS.nd
    dj := hS.dj
    out := hS.out
    pins := fun k m d e => by
      obtain ⟨v, h1, h2⟩ := hS.pins k m d (by rw [hρ]; exact get k _ d e)
      exact ⟨v, h1, put k v (by rw [← hσ]; exact h2)⟩ }
variable {P : Program} {w : World} {mg : Str → Option Value} {base : Heap}
theorem fn_ok {x qual : Str} {st : Stmt} {fa : Addr} {fd : FuncData} {N ps : List Str} {k : Nat} {ms ms' : List Md} {Wf : DF} {w' : DS} (F : Fun K x qual st fa fd) (sc : FnScope N ps (defScope st)) (hm : ms.length = ps.length) (ho : mOk ms ms' = true) (hN : ms.length ≤ N.length)
    (body : ∀ (cdv : Value) (A : Around) (outer : List Env) (s : Shared) (H : Hp) (E : XK), Room k (A.deeper (envOfC qual (defScope st) s.heap.objs.size fa cdv)) →
      PSs (cxOf (L2.CX P w) P w K mg base N qual (defScope st) fa cdv A outer s H E) (defBody st) (ts K (fun cls d _ H => E cls d H) w'))
    (hw : ∀ ds P, ds.length = ms.length → Wf ds P → w' (endsOf ms' ds P) (zr ms ds ++ List.replicate (N.length - ms.length) none)) :
    FnOk P w K mg base (L2.CX P w) (k + 1) fa fd ps (spV K ms ms' Wf) := by
  refine F.okX sc (fun vs H Q E h => ?_) (fun cdv A outer s H vs Q E hr h => ⟨ts K (fun cls d _ H => E cls d H) w', body cdv A outer s H E hr, ?_⟩)
  · obtain ⟨S, ds, Pf, _, _, _, h, _⟩ := h
    rw [h, hm]
  · obtain ⟨S, ds, Pf, rfl, hσ, hp, hl, hd, hρ, ok, wf, k1, k2⟩ := h
    have sok := start_ok (N := N) hl hd hN ok hσ hρ
    have hσ' : ∀ (k : Nat) (v : V), vs[k]? = some v → (L2.start N vs)[k]? = some (some v) := fun k v e => by
      have e' : (vs.map some)[k]? = some (some v) := by rw [List.getElem?_map, e]; rfl
      unfold L2.start
      rw [List.getElem?_append_left (List.getElem?_eq_some_iff.mp e').1]; exact e'
    have hρ' : ∀ (k : Nat) (m : Md) (d : D), ms[k]? = some m → ds[k]? = some d → (zr ms ds ++ List.replicate (N.length - ms.length) none)[k]? = some (some (m, d)) := fun k m d e1 e2 => by
      have e := zr_get.mpr ⟨e1, e2⟩
      rw [List.getElem?_append_left (List.getElem?_eq_some_iff.mp e).1]; exact e
    have fin : ∀ {q : List D → Prop} (T : Sta), finK ms' ds T.ρ q → T.ok K → (Sta.to { S with σ := L2.start N vs, ρ := zr ms ds ++ List.replicate (N.length - ms.length) none } T) → ∃ ds', q ds' ∧ ds'.length = ms'.length ∧ Sta.ok K { T with σ := vs.map some, ρ := zr ms' ds', f := parF ms' T.f } := fun {q} T hq okT t => by
      obtain ⟨ds', h1, h2, h3⟩ := finK_of ho hq
      exact ⟨ds', h1, h2, par_ok (S := { S with σ := L2.start N vs, ρ := zr ms ds ++ List.replicate (N.length - ms.length) none }) ho hl sok hσ' hρ' hp okT t h2 h3⟩
    refine ⟨{ S with σ := L2.start N vs, ρ := zr ms ds ++ List.replicate (N.length - ms.length) none }, endsOf ms' ds Pf, rfl, rfl, sok, hw ds Pf hd wf, ?_⟩
    refine ⟨fun T e okT t => ?_, fun T e _ _ => e.elim, fun T e _ _ => e.elim, fun x T e okT t v hv => ?_, fun C fl T e okT t dd hd' => ?_⟩
    · obtain ⟨ds', h1, h2, h3⟩ := fin T e okT t
      exact k1 _ ds' _ h1 h2 rfl rfl h3 (Sta.to.par (S := S) ⟨t.stp, t.pin⟩) rfl _ (Has.par (S := S) (T := T) (kd := .fz) rfl .non)
    · obtain ⟨ds', h1, h2, h3⟩ := fin T e.2 okT t
      exact k1 _ ds' _ h1 h2 rfl rfl h3 (Sta.to.par (S := S) ⟨t.stp, t.pin⟩) e.1 _ (Has.par (S := S) e.1 (by
        obtain ⟨kd, d⟩ := x
        cases kd with
        | fz => exact hv
        | bor i p m => cases e.1
        | new m => exact hv))
    · obtain ⟨ds', h1, h2, h3⟩ := fin T e okT t
      exact k2 C fl ds' _ h1 h2 rfl rfl h3 (Sta.to.par (S := S) ⟨t.stp, t.pin⟩) dd hd'
end
end VL

namespace VL
open PySem PySem.Spec PyProof.Rows L2
/-! ### calls of one's own defs -/
def argsOk : List Md → List (Kd × D) → Prop
  | [], [] => True
  | .F :: ms, (.fz, _) :: xs => argsOk ms xs
  | .P m :: ms, (.bor _ _ m', _) :: xs => m' = m ∧ argsOk ms xs
  | _, _ => False
/-- the slots that are lent -/
def borS : List (Kd × D) → List Nat
  | [] => []
  | (.bor i _ _, _) :: xs => i :: borS xs
  | _ :: xs => borS xs
def nodupB : List Nat → Bool
  | [] => true
  | i :: l => !l.contains i && nodupB l
def setAt (ρ : Rho) (i : Nat) (p : List Nat) (d' : D) : Rho := match ρ[i]? with
  | some (some (m, d)) => ρ.set i (some (m, dSet d p d'))
  | _ => ρ
def putBack : List (Kd × D) → List D → Rho → Rho
  | (.bor i p _, _) :: xs, d' :: ds', ρ => putBack xs ds' (setAt ρ i p d')
  | _ :: xs, _ :: ds', ρ => putBack xs ds' ρ
  | _, _, ρ => ρ
section
variable {K : PySem.W.Frag} {W : WX} {G G' H H' H0 : Hp} {σ : L2.St} {ρ : Rho} {f f' : Own} {pin : Nat → Option V} {X : Cx} {S S0 S1 T T1 T2 U : Sta} {E : En} {Z : Ends}
theorem setAt_ne {i j : Nat} {p : List Nat} {d' : D} (h : j ≠ i) : (setAt ρ i p d')[j]? = ρ[j]? := by
  unfold setAt
  split
  · rw [List.getElem?_set_ne (Ne.symm h)]
  · rfl
theorem setAt_eq {i : Nat} {p : List Nat} {d' d0 : D} {m0 : Md} (h : ρ[i]? = some (some (m0, d0))) : (setAt ρ i p d')[i]? = some (some (m0, dSet d0 p d')) := by
  unfold setAt
  rw [h]
  show (ρ.set i (some (m0, dSet d0 p d')))[i]? = _
  rw [List.getElem?_set_self (List.getElem?_eq_some_iff.mp h).1]
theorem setAt_len {i : Nat} {p : List Nat} {d' : D} : (setAt ρ i p d').length = ρ.length := by
  unfold setAt
  split
  · simp
  · rfl
theorem putBack_len : ∀ {xs : List (Kd × D)} {ds' : List D} {ρ : Rho}, (putBack xs ds' ρ).length = ρ.length
  | [], _, _ => by cases ‹List D› <;> rfl
  | (.fz, _) :: _, [], _ => rfl
  | (.new _, _) :: _, [], _ => rfl
  | (.bor _ _ _, _) :: _, [], _ => rfl
  | (.fz, _) :: xs, d :: ds', ρ => putBack_len (xs := xs)
  | (.new _, _) :: xs, d :: ds', ρ => putBack_len (xs := xs)
  | (.bor i p m, _) :: xs, d :: ds', ρ => by
    show (putBack xs ds' (setAt ρ i p d)).length = _
    rw [putBack_len, setAt_len]
theorem putBack_ne : ∀ {xs : List (Kd × D)} {ds' : List D} {ρ : Rho} {j : Nat}, j ∉ borS xs → (putBack xs ds' ρ)[j]? = ρ[j]?
  | [], _, _, _, _ => by cases ‹List D› <;> rfl
  | (.fz, _) :: _, [], _, _, _ => rfl
  | (.new _, _) :: _, [], _, _, _ => rfl
  | (.bor _ _ _, _) :: _, [], _, _, _ => rfl
  | (.fz, _) :: xs, d :: ds', ρ, j, h => putBack_ne (xs := xs) h
  | (.new _, _) :: xs, d :: ds', ρ, j, h => putBack_ne (xs := xs) h
  | (.bor i p m, _) :: xs, d :: ds', ρ, j, h => by
    show (putBack xs ds' (setAt ρ i p d))[j]? = _
    rw [putBack_ne (fun z => h (List.mem_cons_of_mem _ z)), setAt_ne (fun z : j = i => h (by rw [z]; exact List.mem_cons_self))]
theorem nodupB_cons {i : Nat} {l : List Nat} (h : nodupB (i :: l) = true) : i ∉ l ∧ nodupB l = true := by
  simpa [nodupB] using h
theorem borS_mem : ∀ {xs : List (Kd × D)} {k : Nat} {i : Nat} {p : List Nat} {m : Md} {d : D}, xs[k]? = some (.bor i p m, d) → i ∈ borS xs
  | [], k, _, _, _, _, h => by simp at h
  | (.bor _ _ _, _) :: xs, 0, _, _, _, _, h => by simp at h; obtain ⟨⟨rfl, _⟩, _⟩ := h; exact List.mem_cons_self
  | (.fz, _) :: xs, 0, _, _, _, _, h => by simp at h
  | (.new _, _) :: xs, 0, _, _, _, _, h => by simp at h
  | (.bor _ _ _, _) :: xs, k + 1, _, _, _, _, h => List.mem_cons_of_mem _ (borS_mem (xs := xs) (k := k) (by simpa using h))
  | (.fz, _) :: xs, k + 1, _, _, _, _, h => borS_mem (xs := xs) (k := k) (by simpa using h)
  | (.new _, _) :: xs, k + 1, _, _, _, _, h => borS_mem (xs := xs) (k := k) (by simpa using h)
theorem borS_get : ∀ {xs : List (Kd × D)} {i : Nat}, i ∈ borS xs → ∃ (k : Nat) (p : List Nat) (m : Md) (d : D), xs[k]? = some (.bor i p m, d)
  | [], _, h => by cases h
  | (.bor i p m, d) :: xs, j, h => by
    rcases List.mem_cons.mp h with rfl | h
    · exact ⟨0, p, m, d, rfl⟩
    · obtain ⟨k, q⟩ := borS_get h
      exact ⟨k + 1, by simpa using q⟩
  | (.fz, _) :: xs, j, h => by
    obtain ⟨k, q⟩ := borS_get (xs := xs) h
    exact ⟨k + 1, by simpa using q⟩
  | (.new _, _) :: xs, j, h => by
    obtain ⟨k, q⟩ := borS_get (xs := xs) h
    exact ⟨k + 1, by simpa using q⟩
theorem borS_inj : ∀ {xs : List (Kd × D)} {k k' i : Nat} {p p' : List Nat} {m m' : Md} {d d' : D}, nodupB (borS xs) = true → xs[k]? = some (.bor i p m, d) → xs[k']? = some (.bor i p' m', d') → k = k'
  | [], _, _, _, _, _, _, _, _, _, _, h, _ => by simp at h
  | (.bor j q n, e) :: xs, 0, 0, _, _, _, _, _, _, _, _, _, _ => rfl
  | (.bor j q n, e) :: xs, 0, k' + 1, _, _, _, _, _, _, _, hn, h, h' => by
    simp at h; obtain ⟨⟨rfl, _⟩, _⟩ := h
    exact absurd (borS_mem (xs := xs) (k := k') (by simpa using h')) (nodupB_cons hn).1
  | (.bor j q n, e) :: xs, k + 1, 0, _, _, _, _, _, _, _, hn, h, h' => by
    simp at h'; obtain ⟨⟨rfl, _⟩, _⟩ := h'
    exact absurd (borS_mem (xs := xs) (k := k) (by simpa using h)) (nodupB_cons hn).1
  | (.bor j q n, e) :: xs, k + 1, k' + 1, _, _, _, _, _, _, _, hn, h, h' => congrArg (· + 1) (borS_inj (nodupB_cons hn).2 (by simpa using h) (by simpa using h'))
  | (.fz, e) :: xs, 0, _, _, _, _, _, _, _, _, _, h, _ => by simp at h
  | (.fz, e) :: xs, _ + 1, 0, _, _, _, _, _, _, _, _, _, h => by simp at h
  | (.fz, e) :: xs, k + 1, k' + 1, _, _, _, _, _, _, _, hn, h, h' => congrArg (· + 1) (borS_inj (xs := xs) hn (by simpa using h) (by simpa using h'))
  | (.new _, e) :: xs, 0, _, _, _, _, _, _, _, _, _, h, _ => by simp at h
  | (.new _, e) :: xs, _ + 1, 0, _, _, _, _, _, _, _, _, _, h => by simp at h
  | (.new _, e) :: xs, k + 1, k' + 1, _, _, _, _, _, _, _, hn, h, h' => congrArg (· + 1) (borS_inj (xs := xs) hn (by simpa using h) (by simpa using h'))
theorem putBack_eq : ∀ {xs : List (Kd × D)} {ds' : List D} {ρ : Rho} {k i : Nat} {p : List Nat} {m m0 : Md} {d d' d0 : D}, nodupB (borS xs) = true → xs[k]? = some (.bor i p m, d) → ds'[k]? = some d' → ρ[i]? = some (some (m0, d0)) → (putBack xs ds' ρ)[i]? = some (some (m0, dSet d0 p d'))
  | [], _, _, _, _, _, _, _, _, _, _, _, h, _, _ => by simp at h
  | _ :: _, [], _, _, _, _, _, _, _, _, _, _, _, h, _ => by simp at h
  | (.bor j q n, e) :: xs, d1 :: ds', ρ, 0, _, _, _, _, _, _, _, hn, h, h', h0 => by
    simp at h; obtain ⟨⟨rfl, rfl, rfl⟩, rfl⟩ := h
    simp at h'; subst h'
    show (putBack xs ds' (setAt ρ j q d1))[j]? = _
    rw [putBack_ne (nodupB_cons hn).1, setAt_eq h0]
  | (.bor j q n, e) :: xs, d1 :: ds', ρ, k + 1, i, _, _, _, _, _, _, hn, h, h', h0 => by
    have hi : i ∈ borS xs := borS_mem (xs := xs) (k := k) (by simpa using h)
    show (putBack xs ds' (setAt ρ j q d1))[i]? = _
    exact putBack_eq (nodupB_cons hn).2 (k := k) (by simpa using h) (by simpa using h') (by rw [setAt_ne (fun z : i = j => (nodupB_cons hn).1 (by rw [← z]; exact hi))]; exact h0)
  | (.fz, e) :: xs, d1 :: ds', ρ, 0, _, _, _, _, _, _, _, _, h, _, _ => by simp at h
  | (.fz, e) :: xs, d1 :: ds', ρ, k + 1, i, _, _, _, _, _, _, hn, h, h', h0 => putBack_eq (xs := xs) hn (k := k) (by simpa using h) (by simpa using h') h0
  | (.new _, e) :: xs, d1 :: ds', ρ, 0, _, _, _, _, _, _, _, _, h, _, _ => by simp at h
  | (.new _, e) :: xs, d1 :: ds', ρ, k + 1, i, _, _, _, _, _, _, hn, h, h', h0 => putBack_eq (xs := xs) hn (k := k) (by simpa using h) (by simpa using h') h0
theorem R.unstrip : ∀ {m : Md} {v : V} {d : D} {fp : List Addr}, R K G H m.st v d fp → R K G H m v d fp
  | .F, _, _, _, h => h
  | .L _, _, _, _, h => h
  | .K, _, _, _, h => h
  | .N, _, _, _, h => h
  | .M _, _, _, _, h => h
  | .O _, _, _, _, h => h
  | .T _, _, _, _, h => h
  | .A _, _, _, _, h => h
  | .P m, _, _, _, h => .P (R.unstrip (m := m) h)
theorem HasA.get {vs : List V} {ds : List (Kd × D)} (h : HasA K S0 T vs ds) : ∀ {k : Nat} {x : Kd × D}, ds[k]? = some x → ∃ v, vs[k]? = some v ∧ Has K S0 T x.1 v x.2 := by
  induction h with
  | nil => intro k x e; simp at e
  | cons h t ih =>
    intro k x e
    cases k with
    | zero => simp at e; subst e; exact ⟨_, rfl, h⟩
    | succ k => simpa using ih (by simpa using e)
theorem argsOk_get : ∀ {ms : List Md} {xs : List (Kd × D)}, argsOk ms xs → xs.length = ms.length ∧ ∀ (k : Nat) (m : Md) (x : Kd × D), ms[k]? = some m → xs[k]? = some x → (m = .F ∧ x.1 = .fz) ∨ ∃ i p m1, m = .P m1 ∧ x.1 = .bor i p m1
  | [], [], _ => ⟨rfl, by simp⟩
  | .F :: ms, (.fz, d) :: xs, h => by
    obtain ⟨h1, h2⟩ := argsOk_get (ms := ms) (xs := xs) h
    refine ⟨by simp [h1], fun k m x e e' => ?_⟩
    cases k with
    | zero => simp at e e'; subst e; subst e'; exact .inl ⟨rfl, rfl⟩
    | succ k => exact h2 k m x (by simpa using e) (by simpa using e')
  | .P m0 :: ms, (.bor i p m1, d) :: xs, h => by
    obtain ⟨rfl, h⟩ := h
    obtain ⟨h1, h2⟩ := argsOk_get (ms := ms) (xs := xs) h
    refine ⟨by simp [h1], fun k m x e e' => ?_⟩
    cases k with
    | zero => simp at e e'; subst e; subst e'; exact .inr ⟨i, p, _, rfl, rfl⟩
    | succ k => exact h2 k m x (by simpa using e) (by simpa using e')
/-- what is lent -/
structure Lent (K : PySem.W.Frag) (T : Sta) (i : Nat) (p : List Nat) (m : Md) (v : V) (d : D) (fq : List Addr) : Prop where
  r : R K T.G T.H m v d fq
  nd : fq.Nodup
  sub : ∀ a ∈ fq, a ∈ T.f i
  back : ∃ m0 d0 v0, T.ρ[i]? = some (some (m0, d0)) ∧ T.σ[i]? = some (some v0) ∧ ∀ (G' H' : Hp) (d' : D) (fq' : List Addr), Ex T.G G' → (∀ a ∈ T.f i, a ∉ fq → H' a = T.H a) → R K G' H' m v d' fq' → fq'.Nodup → (∀ a ∈ fq', a ∈ fq ∨ a ∉ T.f i) →
      ∃ fr, R K G' H' m0 v0 (dSet d0 p d') fr ∧ fr.Nodup ∧ ∀ a ∈ fr, (a ∈ T.f i ∧ a ∉ fq) ∨ a ∈ fq'
theorem Has.lent (ok : T.ok K) {i : Nat} {p : List Nat} {m : Md} {v : V} {d : D} (h : Has K S0 T (.bor i p m) v d) : ∃ fq, Lent K T i p m v d fq := by
  obtain ⟨m0, d0, v0, h1, h2, h3, h4, h5⟩ := h
  obtain ⟨v1, g1, r⟩ := ok.slot i m0 d0 h1
  rw [h2] at g1; cases g1
  obtain ⟨fq, r1, n1, s1, k1⟩ := R.lens ok.ext r.strip (ok.nd i) h3 h4 h5
  refine ⟨fq, r1, n1, s1, m0, d0, v0, h1, h2, fun G' H' d' fq' e k r' nq hq => ?_⟩
  obtain ⟨fr, r2, n2, s2⟩ := k1 G' H' d' fq' e k r' nq hq
  exact ⟨fr, r2.unstrip, n2, s2⟩
/-- the callee's state, and the way back -/
theorem call_state {ms : List Md} {xs : List (Kd × D)} {vs : List V} (ok : T.ok K) (h : HasA K S0 T vs xs) (ha : argsOk ms xs) (hn : nodupB (borS xs) = true) :
    ∃ fA : Own, Sx K (fun i => vs[i]?) T.G T.H (vs.map some) (zr ms (xs.map (·.2))) fA ∧ (∀ a, Ow fA a → Ow T.f a) ∧
      ∀ (ds' : List D) (U : Sta), ds'.length = ms.length → U.σ = vs.map some → U.ρ = zr ms ds' → U.ok K → Sta.to ⟨fun i => vs[i]?, T.G, T.H, vs.map some, zr ms (xs.map (·.2)), fA⟩ U →
        ∃ f2 : Own, Sx K T.pin U.G U.H T.σ (putBack xs ds' T.ρ) f2 ∧ T.to ⟨T.pin, U.G, U.H, T.σ, putBack xs ds' T.ρ, f2⟩ ∧ Tch (borS xs) T ⟨T.pin, U.G, U.H, T.σ, putBack xs ds' T.ρ, f2⟩ ∧
          ∀ a, Ow f2 a → ¬ Ow U.f a → (Ow T.f a ∧ ¬ Ow fA a) := by
  obtain ⟨hl, hx⟩ := argsOk_get ha
  have hvl : vs.length = xs.length := h.len
  -- what is lent, by places
  have ex : ∀ k : Nat, ∃ fq : List Addr, (∀ i p m d, xs[k]? = some (.bor i p m, d) → ∃ v, vs[k]? = some v ∧ Lent K T i p m v d fq) ∧ ((∀ i p m d, xs[k]? ≠ some (.bor i p m, d)) → fq = []) := fun k => by
    by_cases c : ∃ i p m d, xs[k]? = some (.bor i p m, d)
    · obtain ⟨i, p, m, d, e⟩ := c
      obtain ⟨v, hv, hh⟩ := h.get e
      obtain ⟨fq, l⟩ := hh.lent ok
      refine ⟨fq, fun i' p' m' d' e' => ?_, fun z => absurd e (z i p m d)⟩
      rw [e] at e'; cases e'
      exact ⟨v, hv, l⟩
    · exact ⟨[], fun i p m d e => absurd ⟨i, p, m, d, e⟩ c, fun _ => rfl⟩
  obtain ⟨fA, hA⟩ := Classical.axiomOfChoice ex
  have own : ∀ k a, a ∈ fA k → ∃ i p m d, xs[k]? = some (.bor i p m, d) ∧ ∃ v, vs[k]? = some v ∧ Lent K T i p m v d (fA k) := fun k a ha => by
    by_cases c : ∃ i p m d, xs[k]? = some (.bor i p m, d)
    · obtain ⟨i, p, m, d, e⟩ := c
      exact ⟨i, p, m, d, e, (hA k).1 i p m d e⟩
    · rw [(hA k).2 fun i p m d e => c ⟨i, p, m, d, e⟩] at ha; cases ha
  have sub : ∀ a, Ow fA a → Ow T.f a := fun a ⟨k, hk⟩ => by
    obtain ⟨i, p, m, d, _, v, _, l⟩ := own k a hk
    exact ⟨i, l.sub a hk⟩
  have lm : (xs.map (·.2)).length = ms.length := by rw [List.length_map, hl]
  have get : ∀ (k : Nat) (m : Md) (d : D), (zr ms (xs.map (·.2)))[k]? = some (some (m, d)) → ∃ x v, ms[k]? = some m ∧ xs[k]? = some x ∧ x.2 = d ∧ vs[k]? = some v ∧ Has K S0 T x.1 v x.2 := fun k m d e => by
    obtain ⟨e1, e2⟩ := zr_get.mp e
    rw [List.getElem?_map] at e2
    cases q : xs[k]? with
    | none => rw [q] at e2; cases e2
    | some x =>
      rw [q] at e2
      obtain ⟨v, hv, hh⟩ := h.get q
      exact ⟨x, v, e1, rfl, by simpa using e2, hv, hh⟩
  have sA : Sx K (fun i => vs[i]?) T.G T.H (vs.map some) (zr ms (xs.map (·.2))) fA := {
    ext := ok.ext
    len := by rw [zr_len lm, List.length_map, hvl, hl]
    slot := fun k m d e => by
      obtain ⟨x, v, e1, e2, e3, hv, hh⟩ := get k m d e
      refine ⟨v, by rw [List.getElem?_map, hv]; rfl, ?_⟩
      obtain ⟨kd, dd⟩ := x
      cases e3
      rcases hx k m _ e1 e2 with ⟨rfl, q⟩ | ⟨i, p, m1, rfl, q⟩
      · cases q
        rw [(hA k).2 fun i p m d z => by rw [e2] at z; cases z]
        exact .F hh
      · cases q
        obtain ⟨v', hv', l⟩ := (hA k).1 _ _ _ _ e2
        rw [hv] at hv'; cases hv'
        exact .P l.r
    emp := fun k e => (hA k).2 fun i p m d z => by
      have hk : k < ms.length := by rw [← hl]; exact (List.getElem?_eq_some_iff.mp z).1
      exact e _ _ (zr_get.mpr ⟨List.getElem?_eq_getElem hk, by rw [List.getElem?_map, z]; rfl⟩)
    nd := fun k => by
      by_cases c : ∃ i p m d, xs[k]? = some (.bor i p m, d)
      · obtain ⟨i, p, m, d, e⟩ := c
        obtain ⟨v, _, l⟩ := (hA k).1 i p m d e
        exact l.nd
      · rw [(hA k).2 fun i p m d e => c ⟨i, p, m, d, e⟩]; exact List.nodup_nil
    dj := fun k k' a ha ha' => by
      obtain ⟨i, p, m, d, e, v, _, l⟩ := own k a ha
      obtain ⟨i', p', m', d', e', v', _, l'⟩ := own k' a ha'
      have q := ok.dj i i' a (l.sub a ha) (l'.sub a ha')
      subst q
      exact borS_inj hn e e'
    out := fun k a ha => ok.outO (sub a ⟨k, ha⟩)
    pins := fun k m d e => by
      obtain ⟨x, v, e1, e2, e3, hv, hh⟩ := get k _ d e
      exact ⟨v, hv, by rw [List.getElem?_map, hv]; rfl⟩ }
  refine ⟨fA, sA, sub, fun ds' U hd hσ hρ okU t => ?_⟩
  have tg : Ex T.G U.G := t.stp.gext
  have keepO : ∀ a o, T.H a = some o → ¬ Ow fA a → U.H a = some o := t.stp.keep
  have newU : ∀ a, Ow U.f a → Ow fA a ∨ T.H a = none := t.stp.fnew
  -- a lent thing as it came back
  have came : ∀ k i p m d, xs[k]? = some (.bor i p m, d) → ∃ fr d' m0 d0 v0, ds'[k]? = some d' ∧ T.ρ[i]? = some (some (m0, d0)) ∧ T.σ[i]? = some (some v0) ∧ R K U.G U.H m0 v0 (dSet d0 p d') fr ∧ fr.Nodup ∧ ∀ a ∈ fr, (a ∈ T.f i ∧ a ∉ fA k) ∨ a ∈ U.f k := fun k i p m d e => by
    obtain ⟨v, hv, l⟩ := (hA k).1 i p m d e
    have hk : k < ds'.length := by rw [hd, ← hl]; exact (List.getElem?_eq_some_iff.mp e).1
    have hk' : k < ms.length := by rw [← hd]; exact hk
    have hm : ms[k]? = some ms[k] := List.getElem?_eq_getElem hk'
    have hdk : ds'[k]? = some ds'[k] := List.getElem?_eq_getElem hk
    obtain ⟨m0, d0, v0, b1, b2, b3⟩ := l.back
    rcases hx k _ _ hm e with ⟨_, q⟩ | ⟨i', p', m1, q0, q⟩
    · cases q
    · cases q
      obtain ⟨v', hv', r'⟩ := okU.slot k (.P m) _ (by rw [hρ]; exact zr_get.mpr ⟨by rw [hm, q0], hdk⟩)
      rw [hσ, List.getElem?_map, hv] at hv'
      cases hv'
      have r'' : R K U.G U.H m v ds'[k] (U.f k) := by
        cases r' with
        | P h => exact h
      have z1 : ∀ a ∈ T.f i, a ∉ fA k → U.H a = T.H a := by
        intro a ha hn'
        cases z : T.H a with
        | none => exact absurd z (ok.own ⟨i, ha⟩)
        | some o =>
          refine keepO a o z fun ⟨k', hk'⟩ => ?_
          obtain ⟨i', p', m', d', e', _, _, l'⟩ := own k' a hk'
          have q := ok.dj i i' a ha (l'.sub a hk')
          subst q
          have := borS_inj hn e e'
          subst this
          exact hn' hk'
      have z2 : ∀ a ∈ U.f k, a ∈ fA k ∨ a ∉ T.f i := by
        intro a ha
        rcases newU a ⟨k, ha⟩ with ⟨k', hk'⟩ | q
        · by_cases c : a ∈ T.f i
          · obtain ⟨i', p', m', d', e', _, _, l'⟩ := own k' a hk'
            have q := ok.dj i i' a c (l'.sub a hk')
            subst q
            have := borS_inj hn e e'
            subst this
            exact .inl hk'
          · exact .inr c
        · exact .inr fun c => ok.own ⟨i, c⟩ q
      obtain ⟨fr, h1, h2, h3⟩ := b3 U.G U.H ds'[k] (U.f k) tg z1 r'' (okU.nd k) z2
      exact ⟨fr, ds'[k], m0, d0, v0, hdk, b1, b2, h1, h2, h3⟩
  have ex2 : ∀ j : Nat, ∃ fr : List Addr, (∀ k p m d, xs[k]? = some (.bor j p m, d) → ∃ d' m0 d0 v0, ds'[k]? = some d' ∧ T.ρ[j]? = some (some (m0, d0)) ∧ T.σ[j]? = some (some v0) ∧ R K U.G U.H m0 v0 (dSet d0 p d') fr ∧ fr.Nodup ∧ ∀ a ∈ fr, (a ∈ T.f j ∧ a ∉ fA k) ∨ a ∈ U.f k) ∧ (j ∉ borS xs → fr = T.f j) := fun j => by
    by_cases c : j ∈ borS xs
    · obtain ⟨k, p, m, d, e⟩ := borS_get c
      obtain ⟨fr, q⟩ := came k j p m d e
      refine ⟨fr, fun k' p' m' d' e' => ?_, fun z => absurd c z⟩
      have := borS_inj hn e e'
      subst this
      rw [e] at e'; cases e'
      exact q
    · exact ⟨T.f j, fun k p m d e => absurd (borS_mem e) c, fun _ => rfl⟩
  obtain ⟨f2, h2⟩ := Classical.axiomOfChoice ex2
  have cls : ∀ j a, a ∈ f2 j → (a ∈ T.f j ∧ ¬ Ow fA a) ∨ (∃ k p m d, xs[k]? = some (.bor j p m, d) ∧ a ∈ U.f k) := fun j a ha => by
    by_cases c : j ∈ borS xs
    · obtain ⟨k, p, m, d, e⟩ := borS_get c
      obtain ⟨d', m0, d0, v0, _, _, _, _, _, q⟩ := (h2 j).1 k p m d e
      rcases q a ha with q | q
      · refine .inl ⟨q.1, fun ⟨k', hk'⟩ => ?_⟩
        obtain ⟨i', p', m', d'', e', _, _, l'⟩ := own k' a hk'
        have z := ok.dj j i' a q.1 (l'.sub a hk')
        subst z
        have := borS_inj hn e e'
        subst this
        exact q.2 hk'
      · exact .inr ⟨k, p, m, d, e, q⟩
    · rw [(h2 j).2 c] at ha
      refine .inl ⟨ha, fun ⟨k', hk'⟩ => ?_⟩
      obtain ⟨i', p', m', d'', e', _, _, l'⟩ := own k' a hk'
      have z := ok.dj j i' a ha (l'.sub a hk')
      subst z
      exact c (borS_mem e')
  have keepS : ∀ j, j ∉ borS xs → ∀ a ∈ T.f j, ∀ o, T.H a = some o → U.H a = some o := fun j hj a ha o ho => keepO a o ho fun ⟨k', hk'⟩ => by
    obtain ⟨i', p', m', d'', e', _, _, l'⟩ := own k' a hk'
    have z := ok.dj j i' a ha (l'.sub a hk')
    subst z
    exact hj (borS_mem e')
  refine ⟨f2, ?_, ?_, ?_, ?_⟩
  · exact {
      ext := okU.ext
      len := by rw [putBack_len]; exact ok.len
      slot := fun j m d e => by
        by_cases c : j ∈ borS xs
        · obtain ⟨k, p, m1, d1, e1⟩ := borS_get c
          obtain ⟨d', m0, d0, v0, q1, q2, q3, q4, _⟩ := (h2 j).1 k p m1 d1 e1
          rw [putBack_eq hn e1 q1 q2] at e
          cases e
          exact ⟨v0, q3, q4⟩
        · rw [putBack_ne c] at e
          obtain ⟨v, g1, g2⟩ := ok.slot j m d e
          refine ⟨v, g1, ?_⟩
          rw [(h2 j).2 c]
          exact g2.keep tg (keepS j c)
      emp := fun j e => by
        by_cases c : j ∈ borS xs
        · obtain ⟨k, p, m1, d1, e1⟩ := borS_get c
          obtain ⟨d', m0, d0, v0, q1, q2, q3, q4, _⟩ := (h2 j).1 k p m1 d1 e1
          exact absurd (putBack_eq hn e1 q1 q2) (e _ _)
        · rw [(h2 j).2 c]
          exact ok.emp j fun m d z => e m d (by rw [putBack_ne c]; exact z)
      nd := fun j => by
        by_cases c : j ∈ borS xs
        · obtain ⟨k, p, m1, d1, e1⟩ := borS_get c
          obtain ⟨d', m0, d0, v0, q1, q2, q3, q4, q5, _⟩ := (h2 j).1 k p m1 d1 e1
          exact q5
        · rw [(h2 j).2 c]; exact ok.nd j
      dj := fun j j' a ha ha' => by
        rcases cls j a ha with q | ⟨k, p, m, d, e, q⟩
        · rcases cls j' a ha' with q' | ⟨k', p', m', d', e', q'⟩
          · exact ok.dj j j' a q.1 q'.1
          · rcases newU a ⟨k', q'⟩ with z | z
            · exact absurd z q.2
            · exact absurd z (ok.own ⟨j, q.1⟩)
        · rcases cls j' a ha' with q' | ⟨k', p', m', d', e', q'⟩
          · rcases newU a ⟨k, q⟩ with z | z
            · exact absurd z q'.2
            · exact absurd z (ok.own ⟨j', q'.1⟩)
          · have := okU.dj k k' a q q'
            subst this
            rw [e] at e'; cases e'; rfl
      out := fun j a ha => by
        rcases cls j a ha with q | ⟨k, p, m, d, e, q⟩
        · have z : T.H a ≠ none := ok.own ⟨j, q.1⟩
          rw [t.stp.gold a z q.2]
          exact ok.out j a q.1
        · exact okU.out k a q
      pins := fun j m d e => by
        by_cases c : j ∈ borS xs
        · obtain ⟨k, p, m1, d1, e1⟩ := borS_get c
          obtain ⟨d', m0, d0, v0, q1, q2, q3, q4, _⟩ := (h2 j).1 k p m1 d1 e1
          rw [putBack_eq hn e1 q1 q2] at e
          cases e
          exact ok.pins j _ _ q2
        · rw [putBack_ne c] at e
          exact ok.pins j m d e }
  · refine ⟨⟨tg, fun a o h1 h3 => keepO a o h1 fun z => h3 (sub a z), fun a h1 h3 => t.stp.gold a h1 fun z => h3 (sub a z), fun a ⟨j, hj⟩ => ?_, t.stp.trk⟩, rfl⟩
    rcases cls j a hj with q | ⟨k, p, m, d, e, q⟩
    · exact .inl ⟨j, q.1⟩
    · exact (newU a ⟨k, q⟩).imp_left (sub a)
  · intro j hj
    exact ⟨putBack_ne hj, (h2 j).2 hj, keepS j hj⟩
  · rintro a ⟨j, hj⟩ hn'
    rcases cls j a hj with q | ⟨k, p, m, d, e, q⟩
    · exact ⟨⟨j, q.1⟩, q.2⟩
    · exact absurd ⟨k, q⟩ hn'
end
end VL

namespace VL
open PySem PySem.Spec PyProof.Rows L2
section
variable {K : PySem.W.Frag} {W : WX} {G G' H H' H0 : Hp} {σ : L2.St} {ρ : Rho} {f f' : Own} {pin : Nat → Option V} {X : Cx} {S S0 S1 T T1 T2 U : Sta} {E : En} {Z : Ends}
/-! ### a call -/
def callK (ms : List Md) (Wf : DF) (p : List Nat) (xs : List (Kd × D)) (ρ : Rho) (P : Po (Kd × D)) : Prop :=
  (argsOk ms xs ∧ nodupB (borS xs) = true) ∧ Wf (xs.map (·.2)) ⟨fun z ds' => P.ok (p ++ borS xs) z (putBack xs ds' ρ), fun C fl ds' => P.ex C fl (putBack xs ds' ρ)⟩
theorem Has.back {kd : Kd} {v : V} {d : D} {pn : Nat → Option V} {σA : L2.St} {ρA : Rho} {fA f2 : Own} {σ2 : L2.St} {ρ2 : Rho} (ok : T.ok K) (sub : ∀ a, Ow fA a → Ow T.f a) (hk : retK kd = true) (h : Has K ⟨pn, T.G, T.H, σA, ρA, fA⟩ U kd v d)
    (last : ∀ a, Ow f2 a → ¬ Ow U.f a → (Ow T.f a ∧ ¬ Ow fA a)) : Has K T ⟨T.pin, U.G, U.H, σ2, ρ2, f2⟩ kd v d := by
  cases kd with
  | fz => exact h
  | bor i p m => cases hk
  | new m =>
    obtain ⟨fp, r, n, k⟩ := h
    refine ⟨fp, r, n, fun a ha => ⟨(k a ha).1, fun z => ?_, ?_⟩⟩
    · obtain ⟨q1, q2⟩ := last a z (k a ha).2.1
      rcases (k a ha).2.2 with z | z
      · exact q2 z
      · exact ok.own q1 z
    · rcases (k a ha).2.2 with z | z
      · exact .inl (sub a z)
      · exact .inr z
/-- the callee's promise, from what is known of the arguments -/
theorem run_call {ms : List Md} {Wf : DF} {p : List Nat} {xs : List (Kd × D)} {vs : List V} {P : Po (Kd × D)} {Q : VK} {EX : XK} (ok : T.ok K) (hx : HasA K S0 T vs xs) (c : callK ms Wf p xs T.ρ P)
    (k : ∀ q x (U : Sta), P.ok q x U.ρ → q = p ++ borS xs → U.σ = T.σ → U.ok K → T.to U → Tch (borS xs) T U → ∀ v : V, Has K T U x.1 v x.2 → Q v U.H)
    (ex : ∀ C fl (U : Sta), P.ex C fl U.ρ → U.σ = T.σ → U.ok K → T.to U → ∀ dd : Option Addr, XD K U.G U.H dd fl → EX (.ref C) dd U.H) : spV K ms ms Wf vs T.H Q EX := by
  obtain ⟨⟨c1, c2⟩, c3⟩ := c
  obtain ⟨fA, sA, sub, back⟩ := call_state ok hx c1 c2
  obtain ⟨hl, _⟩ := argsOk_get c1
  refine ⟨⟨fun i => vs[i]?, T.G, T.H, vs.map some, zr ms (xs.map (·.2)), fA⟩, xs.map (·.2), _, rfl, rfl, rfl, by rw [hx.len, hl], by rw [List.length_map, hl], rfl, sA, c3, fun z ds' U e hd hσ hρ okU t hk v hv => ?_, fun C fl ds' U e hd hσ hρ okU t dd hdd => ?_⟩
  · obtain ⟨f2, b1, b2, b3, b4⟩ := back ds' U hd hσ hρ okU t
    exact k _ z ⟨T.pin, U.G, U.H, T.σ, putBack xs ds' T.ρ, f2⟩ e rfl rfl b1 b2 b3 v (Has.back ok sub hk hv b4)
  · obtain ⟨f2, b1, b2, b3, b4⟩ := back ds' U hd hσ hρ okU t
    exact ex C fl ⟨T.pin, U.G, U.H, T.σ, putBack xs ds' T.ρ, f2⟩ e rfl b1 b2 dd hdd
def wCall (ms : List Md) (Wf : DF) (dfl : List D) (wa : DE (List (Kd × D))) : DE (Kd × D) := fun ρ P => wa ρ ⟨fun p xs ρ1 => callK ms Wf p (xs ++ dfl.map fun d => (.fz, d)) ρ1 P, P.ex⟩
theorem HasA.append {vs ws : List V} {ds es : List (Kd × D)} (h : HasA K S0 T vs ds) (h' : HasA K S0 T ws es) : HasA K S0 T (vs ++ ws) (ds ++ es) := by
  induction h with
  | nil => exact h'
  | cons h t ih => exact .cons h ih
theorem HasA.of_fz : ∀ {vs : List V} {ds : List D}, DtA K T.G vs ds → HasA K S0 T vs (ds.map fun d => (Kd.fz, d))
  | _, _, .nil => .nil
  | _, _, .cons h t => .cons h (HasA.of_fz t)
theorem te_call {ms : List Md} {Wf : DF} {dfl : List D} {dvs : List V} {wa : DE (List (Kd × D))} {Q : VK} (hd : ∀ G, DtA K G dvs dfl) (h : te K W (wCall ms Wf dfl wa) σ H Q) : tCallSD (spV K ms ms Wf) dvs (WE W) (ta K W wa) σ H Q := by
  obtain ⟨S, P, rfl, rfl, ok, w, k, ex⟩ := h
  refine ⟨S, _, rfl, rfl, ok, w, fun p xs T w1 e1 ok1 t1 pr1 vs h1 => ?_, ex⟩
  have hd' : HasA K S T dvs (dfl.map fun d => (Kd.fz, d)) := HasA.of_fz (hd T.G)
  refine run_call (S0 := S) ok1 (h1.append hd') w1 (fun q x U e eq es okU tU pr v hv => ?_) (fun C fl U e es okU tU dd hdd => ?_)
  · exact k _ _ U e (es.trans e1) okU (t1.trans tU) (eq ▸ pr1.trans pr) v (hv.from t1)
  · exact ex C fl U e (es.trans e1) okU (t1.trans tU) dd hdd
/-- without what is lent: an answer that is no object -/
def scD : D → Bool
  | .non => true
  | .bl _ => true
  | .int _ => true
  | .str _ => true
  | _ => false
theorem Dt.sc {v : V} {d : D} (h : Dt K G v d) (hs : scD d = true) (G' : Hp) : Dt K G' v d := by
  cases h with
  | non => exact .non
  | bl => exact .bl _
  | int => exact .int _
  | str => exact .str _
  | lst => cases hs
  | tup => cases hs
  | dct => cases hs
  | obj => cases hs
  | scr => cases hs
  | exc => cases hs
  | exf => cases hs
  | ndc => cases hs
def wCallB (n : Nat) (Wf : DF) (dfl : List D) (wa : DE (List (Kd × D))) : DE (Kd × D) := fun ρ P => wa ρ ⟨fun p xs ρ1 => xs.length + dfl.length = n ∧ Wf (xs.map (·.2) ++ dfl) ⟨fun z _ => scD z.2 = true ∧ P.ok p (.fz, z.2) ρ1, fun C fl _ => fl = [] ∧ P.ex C [] ρ1⟩, P.ex⟩
section
variable {k : Nat} {fa : Addr} {fd : FuncData} {ps : List Str} {ms : List Md} {Wf : DF} {x : Str} {p pos : Pos} {e : Expr} {es : List Expr} {wa : DE (List (Kd × D))} {dfl : List D} {dvs : List V} {dvl : List Value} {n : Nat}
theorem q_call (F : FnOk X.prog X.w X.K X.mg X.base (L2.CX X.prog X.w) k fa fd ps (spV X.K ms ms Wf)) (hr : Room k X.A) (hm : X.mg x = some (.ref fa)) (hk : PySem.W.keepIn X.K (.ref fa) = true) (hb : Binds X.K fd ps []) (tk : Takes X W)
    (ha : PA X (e :: es) (ta X.K W wa)) (hg : Gl X x := by rfl) (hdb : (x == ("__debug__" : Str)) = false := by decide) (he : starEach (e :: es) X.env = (false, eval e X.env) :: starEach es X.env := by rfl) (hpl : (backTo pos (starEach es X.env)).any (·.1) = false := by rfl) :
    PE X (.Call (.Name x p) (e :: es) [] pos) (te X.K W (wCall ms Wf [] wa)) :=
  PE.imp (pe_callSD F hr hg hm hk hb .nil (fun σ => passAt tk σ) ha hdb he hpl) fun _ _ _ h => te_call (fun _ => .nil) h
end
/-! ### slots frozen, moved -/
def wFrz (i : Nat) : DE (Kd × D) := fun ρ P => match ρ[i]? with
  | some (some (m, d)) => notP m = true ∧ P.ok [i] (.fz, d) (ρ.set i (some (.F, d)))
  | _ => False
theorem te_frz {i : Nat} {Q : VK} (h : te K W (wFrz i) σ H Q) : tVar i σ H Q := by
  obtain ⟨S, P, rfl, rfl, ok, w, k, _⟩ := h
  unfold wFrz at w
  split at w
  · rename_i m d e
    obtain ⟨v, hv, r⟩ := ok.slot i _ _ e
    have hlt := (List.getElem?_eq_some_iff.mp e).1
    have B : ∀ a, a ∈ S.f i → S.G a = none := fun a h => ok.out i a h
    have dv : Dt K (Gadd S.G S.H (· ∈ S.f i)) v d := r.dt (Gadd.ext B) fun a ha o q => by rw [Gadd.in ha]; exact q
    have sx : Sx K S.pin (Gadd S.G S.H (· ∈ S.f i)) S.H S.σ (S.ρ.set i (some (.F, d))) (S.f.set i []) := {
      ext := Gadd.sub ok.ext
      len := by simp [ok.len]
      slot := fun j m' d' e' => by
        by_cases c : j = i
        · subst c
          rw [List.getElem?_set_self hlt] at e'
          cases e'
          exact ⟨v, hv, by rw [Own.set_same]; exact .F dv⟩
        · rw [List.getElem?_set_ne (Ne.symm c)] at e'
          obtain ⟨u, h1, h2⟩ := ok.slot j m' d' e'
          exact ⟨u, h1, by rw [Own.set_ne c]; exact h2.keep (Gadd.ext B) fun a _ o h => h⟩
      emp := fun j e' => by
        by_cases c : j = i
        · subst c; exact Own.set_same
        · rw [Own.set_ne c]
          exact ok.emp j fun m' d' q => e' m' d' (by rw [List.getElem?_set_ne (Ne.symm c)]; exact q)
      nd := fun j => by
        by_cases c : j = i
        · subst c; rw [Own.set_same]; exact List.nodup_nil
        · rw [Own.set_ne c]; exact ok.nd j
      dj := fun j j' a h h' => by
        by_cases c : j = i
        · subst c; rw [Own.set_same] at h; cases h
        · by_cases c' : j' = i
          · subst c'; rw [Own.set_same] at h'; cases h'
          · rw [Own.set_ne c] at h; rw [Own.set_ne c'] at h'; exact ok.dj _ _ a h h'
      out := fun j a h => by
        by_cases c : j = i
        · subst c; rw [Own.set_same] at h; cases h
        · rw [Own.set_ne c] at h
          rw [Gadd.out fun z => c (ok.dj j i a h z)]
          exact ok.out j a h
      pins := fun j m' d' e' => by
        by_cases c : j = i
        · subst c; rw [List.getElem?_set_self hlt] at e'; cases e'
        · rw [List.getElem?_set_ne (Ne.symm c)] at e'
          exact ok.pins j m' d' e' }
    refine ⟨v, hv, k _ _ ⟨S.pin, Gadd S.G S.H (· ∈ S.f i), S.H, S.σ, S.ρ.set i (some (.F, d)), S.f.set i []⟩ w.2 rfl sx ⟨⟨Gadd.ext B, fun a o h _ => h, fun a _ h => Gadd.out fun z => h ⟨i, z⟩, fun a ⟨j, hj⟩ => ?_, fun _ h => h⟩, rfl⟩ (fun j hj => ?_) v dv⟩
    · by_cases c : j = i
      · subst c
        have hj' : a ∈ S.f.set j [] j := hj
        rw [Own.set_same] at hj'; cases hj'
      · have hj' : a ∈ S.f.set i [] j := hj
        rw [Own.set_ne c] at hj'; exact .inl ⟨j, hj'⟩
    · have c : j ≠ i := fun z => hj (by rw [z]; exact List.mem_cons_self)
      exact ⟨List.getElem?_set_ne (Ne.symm c), Own.set_ne c, fun _ _ _ h => h⟩
  · exact w.elim
def wMov (i : Nat) : DE (Kd × D) := fun ρ P => match ρ[i]? with
  | some (some (m, d)) => notP m = true ∧ P.ok [i] (.new m, d) (ρ.set i none)
  | _ => False
theorem te_mov {i : Nat} {Q : VK} (h : te K W (wMov i) σ H Q) : tVar i σ H Q := by
  obtain ⟨S, P, rfl, rfl, ok, w, k, _⟩ := h
  unfold wMov at w
  split at w
  · rename_i m d e
    obtain ⟨v, hv, r⟩ := ok.slot i _ _ e
    refine ⟨v, hv, k _ _ ⟨S.pin, S.G, S.H, S.σ, S.ρ.set i none, S.f.set i []⟩ w.2 rfl (Sx.forget ok i) ⟨⟨Ex.refl _, fun a o h _ => h, fun _ _ _ => rfl, fun a ⟨j, hj⟩ => ?_, fun _ h => h⟩, rfl⟩ (fun j hj => ?_) v ⟨S.f i, r, ok.nd i, fun a ha => ⟨ok.out i a ha, fun ⟨j, hj⟩ => ?_, .inl ⟨i, ha⟩⟩⟩⟩
    · by_cases c : j = i
      · subst c
        have hj' : a ∈ S.f.set j [] j := hj
        rw [Own.set_same] at hj'; cases hj'
      · have hj' : a ∈ S.f.set i [] j := hj
        rw [Own.set_ne c] at hj'; exact .inl ⟨j, hj'⟩
    · have c : j ≠ i := fun z => hj (by rw [z]; exact List.mem_cons_self)
      exact ⟨List.getElem?_set_ne (Ne.symm c), Own.set_ne c, fun _ _ _ h => h⟩
    · by_cases c : j = i
      · subst c
        have hj' : a ∈ S.f.set j [] j := hj
        rw [Own.set_same] at hj'; cases hj'
      · have hj' : a ∈ S.f.set i [] j := hj
        rw [Own.set_ne c] at hj'
        exact c (ok.dj j i a hj' ha)
  · exact w.elim
section
variable {x : Str} {pos : Pos}
theorem q_frz (i : Nat) (hN : X.N[i]? = some x := by rfl) (hv : Vis X.env.scope x := by first | exact Or.inl rfl | exact Or.inr (Or.inl rfl) | exact Or.inr (Or.inr rfl)) (hd : (x == ("__debug__" : Str)) = false := by decide)
    (hcd : (x == ("__classdict__" : Str)) = false := by decide) : PE X (.Name x pos) (te X.K W (wFrz i)) := PE.imp (pv i hN hv hd hcd) fun _ _ _ h => te_frz h
theorem q_mov (i : Nat) (hN : X.N[i]? = some x := by rfl) (hv : Vis X.env.scope x := by first | exact Or.inl rfl | exact Or.inr (Or.inl rfl) | exact Or.inr (Or.inr rfl)) (hd : (x == ("__debug__" : Str)) = false := by decide)
    (hcd : (x == ("__classdict__" : Str)) = false := by decide) : PE X (.Name x pos) (te X.K W (wMov i)) := PE.imp (pv i hN hv hd hcd) fun _ _ _ h => te_mov h
end
end
end VL

namespace VL
open PySem PySem.Spec PyProof.Rows L2
section
variable {K : PySem.W.Frag} {W : WX} {G G' H H' H0 : Hp} {σ : L2.St} {ρ : Rho} {f f' : Own} {pin : Nat → Option V} {X : Cx} {S S0 S1 T T1 T2 U : Sta} {E : En} {Z : Ends}
/-! ### targets -/
abbrev DG := D → Rho → (Rho → Prop) → Prop
abbrev DGs := List D → Rho → (Rho → Prop) → Prop
/-- what a target does: the slots vs alone are stored -/
def tg (K : PySem.W.Frag) (vs : List Nat) (wg : DG) : TG := fun v σ H Q =>
  ∃ (S : Sta) (d : D) (P : Rho → Prop), S.σ = σ ∧ S.H = H ∧ S.ok K ∧ Dt K S.G v d ∧ wg d S.ρ P ∧ ∀ T : Sta, P T.ρ → T.ok K → S.to T → Tch vs S T → (∀ j, j ∉ vs → T.σ[j]? = S.σ[j]?) → T.σ.length = S.σ.length → Q T.σ T.H
def tgs (K : PySem.W.Frag) (vs : List Nat) (wg : DGs) : TGs := fun us σ H Q =>
  ∃ (S : Sta) (d : List D) (P : Rho → Prop), S.σ = σ ∧ S.H = H ∧ S.ok K ∧ DtA K S.G us d ∧ wg d S.ρ P ∧ ∀ T : Sta, P T.ρ → T.ok K → S.to T → Tch vs S T → (∀ j, j ∉ vs → T.σ[j]? = S.σ[j]?) → T.σ.length = S.σ.length → Q T.σ T.H
theorem PG.imp {e : Expr} {t t' : TG} (h : PG X e t) (k : ∀ v σ H Q, t' v σ H Q → t v σ H Q) : PG X e t' := ⟨fun pins s σ H v u Q I r q => h.run pins s σ H v u Q I r (k v σ H Q q)⟩
theorem PGs.imp {e : List Expr} {t t' : TGs} (h : PGs X e t) (k : ∀ v σ H Q, t' v σ H Q → t v σ H Q) : PGs X e t' := ⟨fun pins s σ H v u Q I r q => h.run pins s σ H v u Q I r (k v σ H Q q)⟩
def wgN (i : Nat) : DG := fun d ρ P => okSlot ρ i = true ∧ P (ρ.set i (some (.F, d)))
def wgNil : DGs := fun ds ρ P => match ds with
  | [] => P ρ
  | _ => False
def wgCons (a : DG) (b : DGs) : DGs := fun ds ρ P => match ds with
  | d :: ds => a d ρ fun ρ' => b ds ρ' P
  | _ => False
def wgTup (n : Nat) (a : DGs) : DG := fun d ρ P => match d with
  | .tup ds => ds.length = n ∧ a ds ρ P
  | _ => False
theorem Tch.put {i : Nat} {v : V} {m : Md} {d : D} {fp : List Addr} : Tch [i] T (T.put i v m d fp) := fun j hj => by
  have c : j ≠ i := fun z => hj (by rw [z]; exact List.mem_cons_self)
  exact ⟨List.getElem?_set_ne (Ne.symm c), Own.set_ne c, fun _ _ _ h => h⟩
theorem tg_name {i : Nat} {v : V} {Q : L2.St → Hp → Prop} (h : tg K [i] (wgN i) v σ H Q) : gName i v σ H Q := by
  obtain ⟨S, d, P, rfl, rfl, ok, hd, w, k⟩ := h
  refine k (S.put i v .F d []) w.2 (Sx.put ok w.1 rfl (.F hd) List.nodup_nil fun _ h => nomatch h) ((Sta.refl S).put fun _ h => nomatch h) Tch.put (fun j hj => ?_) ?_
  · exact List.getElem?_set_ne fun z => hj (by rw [z]; exact List.mem_cons_self)
  · exact List.length_set
theorem tgs_nil {us : List V} {Q : L2.St → Hp → Prop} (h : tgs K [] wgNil us σ H Q) : gNil us σ H Q := by
  obtain ⟨S, d, P, rfl, rfl, ok, hd, w, k⟩ := h
  cases hd with
  | nil => exact ⟨rfl, k S w ok (Sta.refl S) (Tch.refl S _) (fun _ _ => rfl) rfl⟩
  | cons h t => exact w.elim
theorem tgs_cons {a : DG} {b : DGs} {va vb : List Nat} {us : List V} {Q : L2.St → Hp → Prop} (h : tgs K (va ++ vb) (wgCons a b) us σ H Q) : gCons (tg K va a) (tgs K vb b) us σ H Q := by
  obtain ⟨S, d, P, rfl, rfl, ok, hd, w, k⟩ := h
  cases hd with
  | nil => exact w.elim
  | @cons v d us ds h t =>
    refine ⟨v, us, rfl, S, d, _, rfl, rfl, ok, h, w, fun T e okT tT ch hs hl => ?_⟩
    refine ⟨T, ds, _, rfl, rfl, okT, t.mono tT.stp.gext, e, fun U e' okU tU ch' hs' hl' => ?_⟩
    exact k U e' okU (tT.trans tU) (ch.trans ch') (fun j hj => (hs' j fun z => hj (List.mem_append_right _ z)).trans (hs j fun z => hj (List.mem_append_left _ z))) (hl'.trans hl)
theorem tg_tup {n : Nat} {a : DGs} {vs : List Nat} {v : V} {Q : L2.St → Hp → Prop} (h : tg K vs (wgTup n a) v σ H Q) : gTup K n (tgs K vs a) v σ H Q := by
  obtain ⟨S, d, P, rfl, rfl, ok, hd, w, k⟩ := h
  unfold wgTup at w
  split at w
  · rename_i ds
    cases hd with
    | tup hs ha => exact ⟨_, _, rfl, ok.ext.t hs, by rw [ha.len]; exact w.1, S, ds, P, rfl, rfl, ok, ha, w.2, k⟩
  · exact w.elim
theorem q_gname (i : Nat) {x : Str} {pos : Pos} (hN : X.N.Nodup) (hi : X.N[i]? = some x := by rfl) (hx : Loc X.env.scope x := by first | exact Or.inl rfl | exact Or.inr rfl) (hf : X.fn x = true ∨ X.env.scope.names.lookup x = some .local := by first | exact .inl rfl | exact .inr rfl | assumption) : PG X (.Name x pos) (tg X.K [i] (wgN i)) :=
  PG.imp (pg_name hN hi hx hf) fun _ _ _ _ h => tg_name h
theorem q_gnil : PGs X [] (tgs X.K [] wgNil) := PGs.imp pgs_nil fun _ _ _ _ h => tgs_nil h
theorem q_gcons {e : Expr} {es : List Expr} {a : DG} {b : DGs} {va vb : List Nat} (h1 : PG X e (tg X.K va a)) (h2 : PGs X es (tgs X.K vb b)) (hs : (assignEach (e :: es) X.env).map (·.2) = assign e X.env :: (assignEach es X.env).map (·.2) := by rfl) : PGs X (e :: es) (tgs X.K (va ++ vb) (wgCons a b)) :=
  PGs.imp (pgs_cons h1 h2 hs) fun _ _ _ _ h => tgs_cons h
theorem q_gtup {es : List Expr} {k n : Nat} {a : DGs} {vs : List Nat} {pos : Pos} (hc : X.calm = true) (h : PGs X es (tgs X.K vs a)) (hn : (assignEach es X.env).length = n := by rfl) (hst : (assignEach es X.env).findIdx? (·.1) = none := by rfl) : PG X (.Tuple es k pos) (tg X.K vs (wgTup n a)) :=
  PG.imp (pg_tup hc h hn hst) fun _ _ _ _ h => tg_tup h
/-- target = e -/
def wAsg (we : DE (Kd × D)) (g : DG) : DS := fun E ρ => wFz we ρ ⟨fun _ x ρ' => match x.1 with
  | .fz => g x.2 ρ' E.nx
  | _ => False, E.ex⟩
theorem ts_asg {we : DE (Kd × D)} {g : DG} {vs : List Nat} (h : ts K W (wAsg we g) Z σ H) : tAsg (te K W we) (tg K vs g) Z σ H := by
  obtain ⟨S, E, rfl, rfl, ok, w, l⟩ := h
  show te K W we S.σ S.H fun x H1 => tg K vs g x S.σ H1 Z.nx
  refine te_fz (te_in ok l w fun p x T e es okT t _ v hv => ?_)
  obtain ⟨kd, d⟩ := x
  cases kd with
  | fz => exact ⟨T, d, _, es, rfl, okT, hv, e, fun U e' okU tU _ _ _ => l.nx U e' okU (t.trans tU)⟩
  | bor i p m => exact e.elim
  | new m => exact e.elim
theorem q_asg {t e : Expr} {we : DE (Kd × D)} {g : DG} {vs : List Nat} {pos : Pos} (he : PE X e (te X.K W we)) (hg : PG X t (tg X.K vs g)) (hs : swapsWithSole [t] e pos.line X.env = pure false := by rfl) (hw : swappedStores [t] e X.env = pure none := by rfl)
    (h1 : (assignEach [t] X.env).map (·.2) = [assign t X.env] := by rfl) : PS X (.Assign [t] e pos) (ts X.K W (wAsg we g)) := PS.imp (ps_asg he hg hs hw h1) fun _ _ _ h => ts_asg h
/-- a, b = x, y -/
def par2 (i j : Nat) (xs : List (Kd × D)) (ρ : Rho) (q : Rho → Prop) : Prop := match xs with
  | [(.fz, d), (.fz, e)] => okSlot ρ i = true ∧ okSlot (ρ.set i (some (.F, d))) j = true ∧ q ((ρ.set i (some (.F, d))).set j (some (.F, e)))
  | _ => False
def wPar (i j : Nat) (wa : DE (List (Kd × D))) : DS := fun E ρ => wa ρ ⟨fun _ xs ρ' => par2 i j xs ρ' E.nx, E.ex⟩
/-! ### while -/
def wWhile (c : DE Bool) (b : DS) : DS := fun E ρ => ∃ I : Nat → Rho → Prop, (∃ m, I m ρ) ∧ ∀ m ρ, I m ρ → c ρ ⟨fun _ k ρ' => match k with
  | true => b { E with nx := fun ρ2 => ∃ m', m' < m ∧ I m' ρ2, ct := fun ρ2 => ∃ m', m' < m ∧ I m' ρ2, bk := E.nx } ρ'
  | false => E.nx ρ', E.ex⟩
/-! ### what is walked -/
/-- J yields the items ds, one after another, wherever all of G stands -/
def Src (K : PySem.W.Frag) (G : Hp) (J : It) (ds : List D) : Prop := ∀ (G1 H1 : Hp), Ex G G1 → Ex G1 H1 → ∀ i : Nat,
  (i < ds.length → J.go i H1) ∧ (ds.length ≤ i → J.stop i H1) ∧ ∀ (x : V) (H2 : Hp) (d : D), J.yld i H1 x H2 → ds[i]? = some d → ∃ G2, Grow G1 H1 G2 H2 ∧ Dt K G2 x d
abbrev lI : Rl It (List D) := fun K _ S J ds => Src K S.G J ds
abbrev ti : PySem.W.Frag → WX → DE (List D) → TI := tgen lI
theorem PI.imp {tgt e : Expr} {t t' : TI} (h : PI X tgt e t) (k : ∀ σ H Q, t' σ H Q → t σ H Q) : PI X tgt e t' := ⟨fun pins s σ H Q I q => h.run pins s σ H Q I (k σ H Q q)⟩
def wFor (w : DE (List D)) (g : DG) (b : DS) : DS := fun E ρ => w ρ ⟨fun _ ds ρ1 => ∃ I : Nat → Rho → Prop, I 0 ρ1 ∧
  (∀ i d ρ2, ds[i]? = some d → I i ρ2 → g d ρ2 fun ρ3 => b { E with nx := I (i + 1), ct := I (i + 1), bk := E.nx } ρ3) ∧ (∀ ρ2, I ds.length ρ2 → E.nx ρ2), E.ex⟩
theorem ts_for {w : DE (List D)} {g : DG} {b : DS} {vs : List Nat} (h : ts K W (wFor w g b) Z σ H) : tFor (ti K W w) (tg K vs g) (ts K W b) Z σ H := by
  obtain ⟨S, E, rfl, rfl, ok, w, l⟩ := h
  refine ⟨S, _, rfl, rfl, ok, w, fun p ds T e es okT t _ J hJ => ?_, fun C fl T e es okT tT dd hd => es ▸ l.ex C fl T e okT tT dd hd⟩
  obtain ⟨I, i0, istep, iend⟩ := e
  refine ⟨fun i n σ H => n + i = ds.length ∧ ∃ U : Sta, U.σ = σ ∧ U.H = H ∧ U.ok K ∧ T.to U ∧ I i U.ρ, ⟨ds.length, rfl, T, es, rfl, okT, Sta.refl T, i0⟩, ?_⟩
  rintro i n _ _ ⟨hn, U, rfl, rfl, okU, tU, iU⟩
  obtain ⟨h1, h2, h3⟩ := hJ U.G U.H tU.stp.gext okU.ext i
  have l' := l.to (t.trans tU)
  by_cases c : i < ds.length
  · refine .inr ⟨h1 c, fun σ' H' => ∃ V : Sta, V.σ = σ' ∧ V.H = H' ∧ V.ok K ∧ T.to V ∧ I (i + 1) V.ρ, fun σ' H' hV => ⟨n - 1, by omega, by omega, hV⟩, fun x H2 hy => ?_⟩
    have hd : ds[i]? = some ds[i] := List.getElem?_eq_getElem c
    obtain ⟨G2, gr, dx⟩ := h3 x H2 ds[i] hy hd
    refine ⟨U.at G2 H2, ds[i], _, rfl, rfl, Sta.grow okU gr, dx, istep i _ U.ρ hd iU, fun V e okV tV _ _ _ => ?_⟩
    refine ⟨V, _, rfl, rfl, okV, e, ?_⟩
    have tUV : U.to V := gr.to.trans tV
    refine ⟨fun A hA okA tA => ⟨A, rfl, rfl, okA, (tU.trans tUV).trans tA, hA⟩, fun A e okA tA => l'.nx A e okA (tUV.trans tA), fun A hA okA tA => ⟨A, rfl, rfl, okA, (tU.trans tUV).trans tA, hA⟩, ?_, ?_⟩
    · exact fun x A e okA tA v hv => l'.rt x A e okA (tUV.trans tA) v (hv.from tUV)
    · exact fun C fl A e okA tA dd hd => l'.ex C fl A e okA (tUV.trans tA) dd hd
  · have hi : i = ds.length := by omega
    refine .inl ⟨h2 (by omega), ?_⟩
    exact l'.nx U (iend U.ρ (by rw [← hi]; exact iU)) okU (Sta.refl U)
theorem q_for {tgt iter : Expr} {body : List Stmt} {w : DE (List D)} {g : DG} {b : DS} {vs : List Nat} {pos : Pos} (hp : PassesOwn (model X.prog X.w) X.A X.env X.xe) (hc : X.calm = true) (hi : PI X tgt iter (ti X.K W w)) (hg : PG X tgt (tg X.K vs g)) (hb : PSs X body (ts X.K W b))
    (hs : ∀ x, foldedSetIterable iter X.env x = pure x := by intro _; rfl) : PS X (.For tgt iter body [] pos) (ts X.K W (wFor w g b)) := PS.imp (ps_for hp hc hi hg hb hs) fun _ _ _ h => ts_for h
end
end VL

namespace VL
open PySem PySem.Spec PyProof.Rows L2
section
variable {K : PySem.W.Frag} {W : WX} {G G' H H' H0 : Hp} {σ : L2.St} {ρ : Rho} {f f' : Own} {pin : Nat → Option V} {X : Cx} {S S0 S1 T T1 T2 U : Sta} {E : En} {Z : Ends}
/-! ### a list comprehension -/
def wipeR (ρ : Rho) : List Nat → Rho
  | [] => ρ
  | v :: vs => (wipeR ρ vs).set v none
def wipeF (f : Own) : List Nat → Own
  | [] => f
  | v :: vs => (wipeF f vs).set v []
theorem Sx.wipe (S : Sx K pin G H σ ρ f) : ∀ vs : List Nat, Sx K pin G H σ (wipeR ρ vs) (wipeF f vs)
  | [] => S
  | v :: vs => (Sx.wipe S vs).forget v
theorem wipeF_sub {a : Addr} : ∀ {vs : List Nat} {i : Nat}, a ∈ wipeF f vs i → a ∈ f i
  | [], _, h => h
  | v :: vs, i, h => by
    by_cases c : i = v
    · subst c
      have h' : a ∈ (wipeF f vs).set i [] i := h
      rw [Own.set_same] at h'; cases h'
    · have h' : a ∈ (wipeF f vs).set v [] i := h
      rw [Own.set_ne c] at h'; exact wipeF_sub h'
theorem wipeR_none : ∀ {vs : List Nat} {v : Nat} {x : Md × D}, v ∈ vs → (wipeR ρ vs)[v]? ≠ some (some x)
  | w :: vs, v, x, h => fun e => by
    by_cases c : v = w
    · subst c
      have e' : ((wipeR ρ vs).set v none)[v]? = some (some x) := e
      by_cases l : v < (wipeR ρ vs).length
      · rw [List.getElem?_set_self l] at e'; cases e'
      · rw [List.getElem?_eq_none (by simpa using l)] at e'; cases e'
    · have e' : ((wipeR ρ vs).set w none)[v]? = some (some x) := e
      rw [List.getElem?_set_ne (Ne.symm c)] at e'
      exact wipeR_none ((List.mem_cons.mp h).resolve_left c) e'
theorem wipeR_ne : ∀ {vs : List Nat} {v : Nat}, v ∉ vs → (wipeR ρ vs)[v]? = ρ[v]?
  | [], _, _ => rfl
  | w :: vs, v, h => by
    have c : v ≠ w := fun z => h (by rw [z]; exact List.mem_cons_self)
    show ((wipeR ρ vs).set w none)[v]? = _
    rw [List.getElem?_set_ne (Ne.symm c), wipeR_ne fun z => h (List.mem_cons_of_mem _ z)]
theorem wipeF_ne : ∀ {vs : List Nat} {v : Nat}, v ∉ vs → wipeF f vs v = f v
  | [], _, _ => rfl
  | w :: vs, v, h => by
    have c : v ≠ w := fun z => h (by rw [z]; exact List.mem_cons_self)
    show (wipeF f vs).set w [] v = _
    rw [Own.set_ne c, wipeF_ne fun z => h (List.mem_cons_of_mem _ z)]
theorem wipe_ne {σ : L2.St} : ∀ {vs : List Nat} {v : Nat}, v ∉ vs → (wipe σ vs)[v]? = σ[v]?
  | [], _, _ => rfl
  | w :: vs, v, h => by
    have c : v ≠ w := fun z => h (by rw [z]; exact List.mem_cons_self)
    show ((wipe σ vs).set w none)[v]? = _
    rw [List.getElem?_set_ne (Ne.symm c), wipe_ne fun z => h (List.mem_cons_of_mem _ z)]
theorem wipe_in {σ : L2.St} : ∀ {vs : List Nat} {v : Nat}, v ∈ vs → (wipe σ vs)[v]? = if v < σ.length then some none else none
  | w :: vs, v, h => by
    by_cases c : v = w
    · subst c
      show ((wipe σ vs).set v none)[v]? = _
      by_cases l : v < σ.length
      · rw [if_pos l, List.getElem?_set_self (by rw [wipe_length]; exact l)]
      · rw [if_neg l, List.getElem?_eq_none (by rw [List.length_set, wipe_length]; omega)]
    · show ((wipe σ vs).set w none)[v]? = _
      rw [List.getElem?_set_ne (Ne.symm c)]
      exact wipe_in ((List.mem_cons.mp h).resolve_left c)
theorem wipe_eq {σ τ : L2.St} {vs : List Nat} (h : ∀ j, j ∉ vs → τ[j]? = σ[j]?) (l : τ.length = σ.length) : wipe τ vs = wipe σ vs := by
  refine List.ext_getElem? fun j => ?_
  by_cases c : j ∈ vs
  · rw [wipe_in c, wipe_in c, l]
  · rw [wipe_ne c, wipe_ne c, h j c]
/-- other slots' values may stand where the data knows nothing -/
theorem Sx.slots {τ : L2.St} (S : Sx K pin G H σ ρ f) (l : τ.length = σ.length) (h : ∀ (i : Nat) (x : Md × D), ρ[i]? = some (some x) → τ[i]? = σ[i]?) : Sx K pin G H τ ρ f where
  ext := S.ext
  len := S.len.trans l.symm
  slot := fun i m d e => by
    obtain ⟨v, h1, h2⟩ := S.slot i m d e
    exact ⟨v, by rw [h i _ e]; exact h1, h2⟩
  emp := S.emp
  nd := S.nd
  dj := S.dj
  out := S.out
  pins := fun i m d e => by
    obtain ⟨v, h1, h2⟩ := S.pins i m d e
    exact ⟨v, h1, by rw [h i _ e]; exact h2⟩
/-- a thing that is neither frozen nor a slot's is changed -/
theorem Sx.aside (S : Sx K pin G H σ ρ f) {a : Addr} {o : HO} (h1 : G a = none) (h2 : ¬ Ow f a) : Sx K pin G (upd H a o) σ ρ f where
  ext := fun b u e => by rw [upd_ne (ne_of_none e h1)]; exact S.ext b u e
  len := S.len
  slot := fun i m d e => by
    obtain ⟨v, g1, g2⟩ := S.slot i m d e
    exact ⟨v, g1, g2.keep (Ex.refl _) fun b hb u q => by rw [upd_ne fun z : b = a => h2 ⟨i, by rw [← z]; exact hb⟩]; exact q⟩
  emp := S.emp
  nd := S.nd
  dj := S.dj
  out := S.out
  pins := S.pins
def subL (p q : List Nat) : Bool := p.all fun i => q.contains i
theorem subL_of {p q : List Nat} (h : subL p q = true) : ∀ i ∈ p, i ∈ q := fun i hi => by
  have := List.all_eq_true.mp h i hi
  simpa using this
theorem Tch.mono {p q : List Nat} (h : Tch p S T) (s : ∀ i ∈ p, i ∈ q) : Tch q S T := fun i hi => h i fun z => hi (s i z)
def noEx : Addr → List (Str × D) → Rho → Prop := fun _ _ _ => False
/-- one turn -/
def lcTurn (g : DG) (t : DE Bool) (we : DE (Kd × D)) (vs q : List Nat) (d : D) (acc : List D) (ρ : Rho) (N : List D → Rho → Prop) : Prop :=
  g d ρ fun ρ3 => t ρ3 ⟨fun p4 b ρ4 => subL p4 q = true ∧ match b with
    | true => wFz we ρ4 ⟨fun p5 x ρ5 => (subL p5 q = true ∧ allFz [x] = true ∧ small (acc.length + 1) = true) ∧ N (acc ++ [x.2]) (wipeR ρ5 vs), noEx⟩
    | false => N acc (wipeR ρ4 vs), noEx⟩
def wLc (w : DE (List D)) (g : DG) (t : DE Bool) (we : DE (Kd × D)) (vs q : List Nat) : DE (Kd × D) := fun ρ P => w ρ ⟨fun p ds ρ1 => ∃ I : Nat → List D → Rho → Prop, I 0 [] (wipeR ρ1 vs) ∧
  (∀ i d acc ρ2, ds[i]? = some d → I i acc ρ2 → lcTurn g t we vs q d acc ρ2 (I (i + 1))) ∧ (∀ acc ρ2, I ds.length acc ρ2 → P.ok (p ++ (vs ++ q)) (.new (.L .F), .lst acc) ρ2), P.ex⟩
theorem te_lc {w : DE (List D)} {g : DG} {t : DE Bool} {we : DE (Kd × D)} {vs q : List Nat} {Q : VK} (h : te K W (wLc w g t we vs q) σ H Q) :
    tLc (ti K W w) (tg K vs g) (tt K (fun _ _ _ _ => False) t) (te K (fun _ _ _ _ => False) we) vs σ H Q := by
  obtain ⟨S, P, rfl, rfl, ok, w, k, ex⟩ := h
  refine ⟨S, _, rfl, rfl, ok, w, fun p ds T e es okT tT pr J hJ Dn hD => ?_, ex⟩
  obtain ⟨I, i0, istep, iend⟩ := e
  -- the state at the block's start
  have okB : Sx K T.pin T.G T.H (wipe S.σ vs) (wipeR T.ρ vs) (wipeF T.f vs) := (Sx.wipe okT vs).slots (by rw [wipe_length, es]) fun i x hx => by
    rw [← es]
    exact wipe_ne fun z => wipeR_none z hx
  have hDf : ∀ a, Ow (wipeF T.f vs) a → Ow T.f a := fun a ⟨i, hi⟩ => ⟨i, wipeF_sub hi⟩
  have gD : T.G Dn = none := okT.ext.free hD
  have fD : ¬ Ow (wipeF T.f vs) Dn := fun z => okT.own (hDf Dn z) hD
  -- between two turns
  refine ⟨fun i n H => n + i = ds.length ∧ ∃ (U : Sta) (acc : List D) (va : List V), U.σ = wipe S.σ vs ∧ U.H = H ∧ U.ok K ∧ T.to U ∧ Tch (vs ++ q) T U ∧ H Dn = some (.lst va) ∧ DtA K U.G va acc ∧ U.G Dn = none ∧ ¬ Ow U.f Dn ∧ I i acc U.ρ ∧ (∀ v ∈ vs, ∀ x, U.ρ[v]? ≠ some (some x)), ⟨ds.length, rfl, ⟨T.pin, T.G, upd T.H Dn (.lst []), wipe S.σ vs, wipeR T.ρ vs, wipeF T.f vs⟩, [], [], rfl, rfl, okB.aside gD fD, ⟨⟨Ex.refl _, fun a o ha _ => ?_, fun _ _ _ => rfl, fun a ha => .inl (hDf a ha), fun a ha => ?_⟩, rfl⟩, fun j hj => ?_, upd_same, .nil, gD, fD, i0, fun v hv x => wipeR_none hv⟩, ?_⟩
  · show upd T.H Dn _ a = _
    rw [upd_ne (ne_of_none ha hD)]; exact ha
  · show upd T.H Dn _ a ≠ none
    by_cases c : a = Dn
    · subst c; rw [upd_same]; exact fun z => nomatch z
    · rw [upd_ne c]; exact ha
  · have hj1 : j ∉ vs := fun z => hj (List.mem_append_left _ z)
    exact ⟨wipeR_ne hj1, wipeF_ne hj1, fun a ha o ho => by
      show upd T.H Dn _ a = _
      rw [upd_ne (ne_of_none ho hD)]; exact ho⟩
  rintro i n _ ⟨hn, U, acc, va, hσ, rfl, okU, tU, chU, hva, dva, gU, fU, iU, nU⟩
  obtain ⟨h1, h2, h3⟩ := hJ U.G U.H tU.stp.gext okU.ext i
  by_cases c : i < ds.length
  · refine .inr ⟨h1 c, fun H' => ∃ (U : Sta) (acc : List D) (va : List V), U.σ = wipe S.σ vs ∧ U.H = H' ∧ U.ok K ∧ T.to U ∧ Tch (vs ++ q) T U ∧ H' Dn = some (.lst va) ∧ DtA K U.G va acc ∧ U.G Dn = none ∧ ¬ Ow U.f Dn ∧ I (i + 1) acc U.ρ ∧ (∀ v ∈ vs, ∀ x, U.ρ[v]? ≠ some (some x)), fun H' hV => ⟨n - 1, by omega, by omega, hV⟩, fun x H2 hy => ?_⟩
    have hd : ds[i]? = some ds[i] := List.getElem?_eq_getElem c
    obtain ⟨G2, gr, dx⟩ := h3 x H2 ds[i] hy hd
    have hDn : U.H Dn ≠ none := by rw [hva]; exact fun z => nomatch z
    have turn := istep i _ acc U.ρ hd iU
    refine ⟨U.at G2 H2, ds[i], _, hσ, rfl, Sta.grow okU gr, dx, turn, fun A eA okA tA chA hs hl => ?_⟩
    have hsA : wipe A.σ vs = wipe S.σ vs := by
      have h9 : wipe A.σ vs = wipe (wipe S.σ vs) vs := wipe_eq (fun j hj => by rw [← hσ]; exact hs j hj) (by rw [← hσ]; exact hl)
      rw [h9]
      exact wipe_eq (fun j hj => wipe_ne hj) (wipe_length _ _)
    refine ⟨hsA, A, _, rfl, rfl, okA, eA, fun p4 b B eB esB okB tB chB b' hb => ?_, fun _ _ _ z => z.elim⟩
    subst hb
    have tUA : U.to A := gr.to.trans tA
    have tUB : U.to B := tUA.trans tB
    have keepD : ∀ V : Sta, V.ok K → U.to V → V.H Dn = some (.lst va) ∧ V.G Dn = none ∧ ¬ Ow V.f Dn := fun V okV tV => ⟨tV.stp.keep Dn _ hva fU, by rw [tV.stp.gold Dn hDn fU]; exact gU, fun z => (tV.stp.fnew Dn z).elim fU hDn⟩
    have chUA : Tch vs U A := by
      have := gr.tch.trans chA
      exact this
    cases b' with
    | true =>
      rw [if_pos rfl, ← esB]
      refine te_fz ⟨B, _, rfl, rfl, okB, eB.2, fun p5 x V eV esV okV tV chV y hy => ?_, fun _ _ _ z => z.elim⟩
      obtain ⟨⟨s5, fz5, sz5⟩, eV⟩ := eV
      obtain ⟨k5, d5⟩ := x
      cases k5 with
      | bor i p m => cases fz5
      | new m => cases fz5
      | fz =>
        have tUV : U.to V := tUB.trans tV
        obtain ⟨q1, q2, q3⟩ := keepD V okV tUV
        refine ⟨va, q1, ?_, ?_⟩
        · have e9 : va.length = acc.length := dva.len
          rw [e9]
          exact Nat.lt_of_lt_of_le (Nat.lt_succ_self _) (small_sz sz5)
        refine ⟨⟨V.pin, V.G, upd V.H Dn (.lst (va ++ [y])), wipe S.σ vs, wipeR V.ρ vs, wipeF V.f vs⟩, acc ++ [d5], va ++ [y], rfl, rfl, ?_, ⟨⟨(tU.trans tUV).stp.gext, fun a o ha hf => ?_, (tU.trans tUV).stp.gold, fun a ⟨j, hj⟩ => (tU.trans tUV).stp.fnew a ⟨j, wipeF_sub hj⟩, fun a ha => ?_⟩, (tU.trans tUV).pin⟩, fun j hj => ?_, upd_same, (dva.mono tUV.stp.gext).append (.cons hy .nil), q2, fun ⟨j, hj⟩ => q3 ⟨j, wipeF_sub hj⟩, eV, fun v hv x => wipeR_none hv⟩
        · refine Sx.aside ((Sx.wipe okV vs).slots ?_ fun i x hx => ?_) q2 fun ⟨j, hj⟩ => q3 ⟨j, wipeF_sub hj⟩
          · rw [wipe_length, esV, esB, ← wipe_length A.σ vs, hsA, wipe_length]
          · have ni : i ∉ vs := fun z => wipeR_none z hx
            rw [← hsA, wipe_ne ni, esV, esB]
        · show upd V.H Dn _ a = _
          rw [upd_ne (ne_of_none ha hD)]
          exact (tU.trans tUV).stp.keep a o ha hf
        · show upd V.H Dn _ a ≠ none
          by_cases c : a = Dn
          · subst c; rw [upd_same]; exact fun z => nomatch z
          · rw [upd_ne c]; exact (tU.trans tUV).stp.trk a ha
        · have j1 : j ∉ vs := fun z => hj (List.mem_append_left _ z)
          have j2 : j ∉ q := fun z => hj (List.mem_append_right _ z)
          have c1 := chU j hj
          have c2 := chUA j j1
          have c3 := chB j fun z => j2 (subL_of eB.1 j z)
          have c4 := chV j fun z => j2 (subL_of s5 j z)
          refine ⟨?_, ?_, fun a ha o ho => ?_⟩
          · show (wipeR V.ρ vs)[j]? = _
            rw [wipeR_ne j1, c4.1, c3.1, c2.1, c1.1]
          · show wipeF V.f vs j = _
            rw [wipeF_ne j1, c4.2.1, c3.2.1, c2.2.1, c1.2.1]
          · show upd V.H Dn _ a = _
            rw [upd_ne (ne_of_none ho hD)]
            refine c4.2.2 a ?_ o (c3.2.2 a ?_ o (c2.2.2 a ?_ o (c1.2.2 a ha o ho)))
            · rw [c3.2.1, c2.2.1, c1.2.1]; exact ha
            · rw [c2.2.1, c1.2.1]; exact ha
            · rw [c1.2.1]; exact ha
    | false =>
      rw [if_neg Bool.false_ne_true]
      obtain ⟨q1, q2, q3⟩ := keepD B okB tUB
      refine ⟨⟨B.pin, B.G, B.H, wipe S.σ vs, wipeR B.ρ vs, wipeF B.f vs⟩, acc, va, rfl, rfl, ?_, ⟨⟨(tU.trans tUB).stp.gext, (tU.trans tUB).stp.keep, (tU.trans tUB).stp.gold, fun a ⟨j, hj⟩ => (tU.trans tUB).stp.fnew a ⟨j, wipeF_sub hj⟩, (tU.trans tUB).stp.trk⟩, (tU.trans tUB).pin⟩, fun j hj => ?_, q1, dva.mono tUB.stp.gext, q2, fun ⟨j, hj⟩ => q3 ⟨j, wipeF_sub hj⟩, eB.2, fun v hv x => wipeR_none hv⟩
      · refine (Sx.wipe okB vs).slots ?_ fun i x hx => ?_
        · rw [wipe_length, esB, ← wipe_length A.σ vs, hsA, wipe_length]
        · have ni : i ∉ vs := fun z => wipeR_none z hx
          rw [← hsA, wipe_ne ni, esB]
      · have j1 : j ∉ vs := fun z => hj (List.mem_append_left _ z)
        have j2 : j ∉ q := fun z => hj (List.mem_append_right _ z)
        have c1 := chU j hj
        have c2 := chUA j j1
        have c3 := chB j fun z => j2 (subL_of eB.1 j z)
        refine ⟨?_, ?_, fun a ha o ho => ?_⟩
        · show (wipeR B.ρ vs)[j]? = _
          rw [wipeR_ne j1, c3.1, c2.1, c1.1]
        · show wipeF B.f vs j = _
          rw [wipeF_ne j1, c3.2.1, c2.2.1, c1.2.1]
        · refine c3.2.2 a ?_ o (c2.2.2 a ?_ o (c1.2.2 a ha o ho))
          · rw [c2.2.1, c1.2.1]; exact ha
          · rw [c1.2.1]; exact ha
  · have hi : i = ds.length := by omega
    refine .inl ⟨h2 (by omega), ?_⟩
    have okE : Sx K U.pin U.G U.H S.σ U.ρ U.f := Sx.slots okU (by rw [hσ, wipe_length]) fun i x hx => by
      rw [hσ]
      exact (wipe_ne fun z => nU i z x hx).symm
    refine k _ _ ⟨U.pin, U.G, U.H, S.σ, U.ρ, U.f⟩ (iend acc U.ρ (by rw [← hi]; exact iU)) rfl okE ⟨(tT.trans tU).stp, (tT.trans tU).pin⟩ ?_ (.ref Dn) ⟨[Dn], .L hva (RA.of_dt dva), by simp, fun a ha => ?_⟩
    · exact fun j hj => (pr.trans chU) j hj
    · have e9 : a = Dn := by simpa using ha
      subst e9
      exact ⟨gU, fU, .inr (tT.stp.free hD)⟩
end
end VL

namespace VL
open PySem PySem.Spec PyProof.Rows L2 RT RZ
section
variable {K : PySem.W.Frag} {W : WX} {G G' H H' H0 : Hp} {σ : L2.St} {ρ : Rho} {f f' : Own} {pin : Nat → Option V} {X : Cx} {S S0 S1 T T1 T2 U : Sta} {E : En} {Z : Ends}
/-! ### sources of items -/
/-- a list or a tuple -/
def iSeq (K : PySem.W.Frag) (tl : TE) : TI := fun σ H R => tl σ H fun x H1 => ∃ a xs, x = .ref a ∧ ((SqL K H1 a xs ∧ R (Itl K a) H1) ∨ (SqT K H1 a xs ∧ R (Itt K a) H1))
theorem pi_seq {tg l : Expr} {tl : TE} (hl : PE X l tl) : PI X tg l (iSeq X.K tl) := by
  refine ⟨fun pins s σ H R I h => ?_⟩
  refine thn (hl.run pins s σ H _ I h) fun v s1 ⟨x, H1, I1, r1, q1⟩ => ?_
  obtain ⟨a, xs, e, q1⟩ := q1
  subst e
  cases r1
  rcases q1 with ⟨hq, q⟩ | ⟨hq, q⟩
  · obtain ⟨its, rv, p, hz⟩ := I1.list hq
    refine wpAny_pyIter_list p.isList ?_
    exact pi_one (tk := s1.toks) I1 _ (turn_list a _) ⟨_, Heap.get?_push_size _ rfl, rfl, rfl⟩ q
  · obtain ⟨its, rv, p, hz⟩ := I1.tuple hq
    refine wpAny_pyIter_tuple (show s1.heap.IsTuple a its.toArray from p) ?_
    exact pi_one (tk := s1.toks) I1 _ (turn_tuple a _) ⟨_, Heap.get?_push_size _ rfl, rfl, rfl⟩ q
theorem DtA.at {vs ds} (h : DtA K G vs ds) (e : Ex G G') {i : Nat} {d : D} (hd : ds[i]? = some d) {x : V} (hx : vs[i]? = some x) : Dt K G' x d := by
  obtain ⟨v, e1, h1⟩ := h.get hd
  rw [e1] at hx; cases hx
  exact h1.mono e
theorem DtA.lt {vs ds} (h : DtA K G vs ds) {i : Nat} (hi : i < ds.length) : ∃ x, vs[i]? = some x := ⟨vs[i]'(by rw [h.len]; exact hi), List.getElem?_eq_getElem _⟩
theorem src_list {a : Addr} {xs : List V} {ds : List D} (h : SqL K G a xs) (hd : DtA K G xs ds) : Src K G (Itl K a) ds := fun G1 H1 e1 e2 i => by
  have h1 := e2.l (e1.l h)
  refine ⟨fun hi => ?_, fun hi => ⟨xs, h1, by rw [hd.len]; exact hi⟩, fun x H2 d hy he => ?_⟩
  · obtain ⟨x, hx⟩ := hd.lt hi
    exact ⟨xs, x, h1, hx⟩
  · obtain ⟨rfl, hy⟩ := hy
    exact ⟨G1, Grow.refl e2, hd.at e1 he (hy xs h1)⟩
theorem src_tup {a : Addr} {xs : List V} {ds : List D} (h : SqT K G a xs) (hd : DtA K G xs ds) : Src K G (Itt K a) ds := fun G1 H1 e1 e2 i => by
  have h1 := e2.t (e1.t h)
  refine ⟨fun hi => ?_, fun hi => ⟨xs, h1, by rw [hd.len]; exact hi⟩, fun x H2 d hy he => ?_⟩
  · obtain ⟨x, hx⟩ := hd.lt hi
    exact ⟨xs, x, h1, hx⟩
  · obtain ⟨rfl, hy⟩ := hy
    exact ⟨G1, Grow.refl e2, hd.at e1 he (hy xs h1)⟩
/-- what is walked must be frozen, or is frozen by it -/
def seqK (x : Kd × D) (q : List D → Prop) : Prop := match x with
  | (.fz, .lst ds) => q ds
  | (.fz, .tup ds) => q ds
  | _ => False
def wIt (we : DE (Kd × D)) : DE (List D) := fun ρ P => wFz we ρ ⟨fun p x ρ' => seqK x fun ds => P.ok p ds ρ', P.ex⟩
theorem seqK_of {x : Kd × D} {q : List D → Prop} (h : seqK x q) : ∃ ds, q ds ∧ (x = (.fz, .lst ds) ∨ x = (.fz, .tup ds)) := by
  unfold seqK at h
  split at h
  · exact ⟨_, h, .inl rfl⟩
  · exact ⟨_, h, .inr rfl⟩
  · exact h.elim
theorem ti_seq {we : DE (Kd × D)} {R : It → Hp → Prop} (h : ti K W (wIt we) σ H R) : iSeq K (te K W we) σ H R := by
  obtain ⟨S, P, rfl, rfl, ok, w, k, ex⟩ := h
  unfold iSeq
  refine te_fz ⟨S, _, rfl, rfl, ok, w, fun p x T e es okT t tc v hv => ?_, ex⟩
  have e : seqK x (fun ds => P.ok p ds T.ρ) := e
  obtain ⟨ds, q, rfl | rfl⟩ := seqK_of e
  · cases hv with
    | lst hl ha => exact ⟨_, _, rfl, .inl ⟨L2.SqL.of (okT.ext _ _ hl), k _ _ T q es okT t tc _ (src_list (.of hl) ha)⟩⟩
  · cases hv with
    | tup hl ha => exact ⟨_, _, rfl, .inr ⟨okT.ext.t hl, k _ _ T q es okT t tc _ (src_tup hl ha)⟩⟩
theorem qi_seq {tg e : Expr} {we : DE (Kd × D)} (he : PE X e (te X.K W we)) : PI X tg e (ti X.K W (wIt we)) := PI.imp (pi_seq he) fun _ _ _ h => ti_seq h
/-! ### range -/
def rangeD (lo : Int) (n : Nat) : List D := (List.range n).map fun i => .int (lo + (i : Nat))
theorem rangeD_len {lo : Int} {n : Nat} : (rangeD lo n).length = n := by simp [rangeD]
theorem rangeD_get {lo : Int} {n i : Nat} {d : D} (h : (rangeD lo n)[i]? = some d) : i < n ∧ d = .int (lo + (i : Nat)) := by
  have hi : i < n := by
    have := (List.getElem?_eq_some_iff.mp h).1
    rwa [rangeD_len] at this
  refine ⟨hi, ?_⟩
  simp [rangeD, hi] at h
  exact h.symm
theorem src_range {lo : Int} {n : Nat} : Src K G (Itr lo n) (rangeD lo n) := fun G1 H1 e1 e2 i => by
  refine ⟨fun hi => by rw [rangeD_len] at hi; exact hi, fun hi => by rw [rangeD_len] at hi; exact hi, fun x H2 d hy he => ?_⟩
  obtain ⟨rfl, rfl⟩ := hy
  obtain ⟨_, rfl⟩ := rangeD_get he
  exact ⟨G1, Grow.refl e2, .int _⟩
def inR (j : Int) : Prop := -(2 ^ 62) ≤ j ∧ j < 2 ^ 62
def rng1 (xs : List (Kd × D)) (q : List D → Prop) : Prop := match xs with
  | [(_, .int j)] => inR j ∧ q (rangeD 0 j.toNat)
  | _ => False
def rng2 (xs : List (Kd × D)) (q : List D → Prop) : Prop := match xs with
  | [(_, .int i), (_, .int j)] => (inR i ∧ inR j) ∧ q (rangeD i (j - i).toNat)
  | _ => False
theorem rng1_of {xs : List (Kd × D)} {q : List D → Prop} (h : rng1 xs q) : ∃ k j, xs = [(k, .int j)] ∧ inR j ∧ q (rangeD 0 j.toNat) := by
  unfold rng1 at h
  split at h
  · exact ⟨_, _, rfl, h⟩
  · exact h.elim
def wRng1 (wa : DE (List (Kd × D))) : DE (List D) := fun ρ P => wa ρ ⟨fun p xs ρ' => rng1 xs fun ds => P.ok p ds ρ', P.ex⟩
def wRng2 (wa : DE (List (Kd × D))) : DE (List D) := fun ρ P => wa ρ ⟨fun p xs ρ' => rng2 xs fun ds => P.ok p ds ρ', P.ex⟩
theorem ti_rng1 {wa : DE (List (Kd × D))} {R : It → Hp → Prop} (h : ti K W (wRng1 wa) σ H R) : iRng1 (ta K W wa) σ H R := by
  obtain ⟨S, P, rfl, rfl, ok, w, k, ex⟩ := h
  refine ⟨S, _, rfl, rfl, ok, w, fun p xs T e es okT t tc vs hv => ?_, ex⟩
  have e : rng1 xs (fun ds => P.ok p ds T.ρ) := e
  obtain ⟨kd, j, rfl, hj, q⟩ := rng1_of e
  cases hv with
  | cons h1 hv =>
    cases hv
    obtain rfl := h1.int_inv okT
    exact ⟨j, rfl, hj.1, hj.2, k _ _ T q es okT t tc _ src_range⟩
section
variable {tg a b : Expr} {wa : DE (List (Kd × D))} {p pos : Pos}
theorem qi_range1 (hm : X.mg "range" = none) (ha : PA X [a] (ta X.K W wa)) (hg : Gl X "range" := by rfl) (hs : starEach [a] X.env = [(false, eval a X.env)] := by rfl) : PI X tg (.Call (.Name "range" p) [a] [] pos) (ti X.K W (wRng1 wa)) :=
  PI.imp (pi_range1 hg hm ha hs) fun _ _ _ h => ti_rng1 h
end
/-! ### enumerate, zip, reversed -/
def enumD (ds : List D) : List D := (List.range ds.length).map fun i => .tup [.int (i : Nat), ds.getD i .non]
def zipD (xs ys : List D) : List D := (xs.zip ys).map fun z => .tup [z.1, z.2]
theorem enumD_len {ds : List D} : (enumD ds).length = ds.length := by simp [enumD]
theorem zipD_len {xs ys : List D} : (zipD xs ys).length = min xs.length ys.length := by simp [zipD]
theorem enumD_get {ds : List D} {i : Nat} {d : D} (h : (enumD ds)[i]? = some d) : ∃ x, ds[i]? = some x ∧ d = .tup [.int (i : Nat), x] := by
  have hi : i < ds.length := by
    have := (List.getElem?_eq_some_iff.mp h).1
    rwa [enumD_len] at this
  refine ⟨ds[i], List.getElem?_eq_getElem hi, ?_⟩
  simp [enumD, hi] at h
  exact h.symm
theorem zipD_get {xs ys : List D} {i : Nat} {d : D} (h : (zipD xs ys)[i]? = some d) : ∃ x y, xs[i]? = some x ∧ ys[i]? = some y ∧ d = .tup [x, y] := by
  simp only [zipD, List.getElem?_map, Option.map_eq_some_iff] at h
  obtain ⟨⟨x, y⟩, hz, rfl⟩ := h
  obtain ⟨h1, h2⟩ := List.getElem?_zip_eq_some.mp hz
  exact ⟨x, y, h1, h2, rfl⟩
theorem DtA.pair {p : Addr} {x y : V} {dx dy : D} (e : G p = none) (hx : Dt K G x dx) (hy : Dt K G y dy) : Dt K (upd G p (.tup [x, y])) (.ref p) (.tup [dx, dy]) := Dt.tup_new (.cons hx (.cons hy .nil)) e
theorem src_enum {a : Addr} {xs : List V} {ds : List D} (h : SqL K G a xs) (hd : DtA K G xs ds) : Src K G (Ite K a) (enumD ds) := fun G1 H1 e1 e2 i => by
  have h1 := e2.l (e1.l h)
  rw [enumD_len]
  refine ⟨fun hi => ?_, fun hi => ⟨xs, h1, by rw [hd.len]; exact hi⟩, fun x H2 d hy he => ?_⟩
  · obtain ⟨x, hx⟩ := hd.lt hi
    exact ⟨xs, x, h1, hx⟩
  · obtain ⟨T, v, rfl, hT, rfl, hv⟩ := hy
    obtain ⟨d1, he', rfl⟩ := enumD_get he
    exact ⟨_, Grow.new e2 hT, DtA.pair (e2.free hT) (.int _) (hd.at e1 he' (hv xs h1))⟩
theorem src_zip {a b : Addr} {xs ys : List V} {ds es : List D} (h : SqL K G a xs) (hd : DtA K G xs ds) (h' : SqL K G b ys) (hd' : DtA K G ys es) : Src K G (Itz K a b) (zipD ds es) := fun G1 H1 e1 e2 i => by
  have h1 := e2.l (e1.l h)
  have h2 := e2.l (e1.l h')
  rw [zipD_len]
  refine ⟨fun hi => ?_, fun hi => ⟨xs, ys, h1, h2, by rw [hd.len, hd'.len]; omega⟩, fun x H2 d hy he => ?_⟩
  · obtain ⟨x, hx⟩ := hd.lt (i := i) (by omega)
    obtain ⟨y, hy⟩ := hd'.lt (i := i) (by omega)
    exact ⟨xs, ys, x, y, h1, h2, hx, hy⟩
  · obtain ⟨T, v, u, rfl, hT, rfl, hv, hu⟩ := hy
    obtain ⟨d1, d2, he1, he2, rfl⟩ := zipD_get he
    exact ⟨_, Grow.new e2 hT, DtA.pair (e2.free hT) (hd.at e1 he1 (hv xs h1)) (hd'.at e1 he2 (hu ys h2))⟩
theorem src_zipT {a b : Addr} {xs ys : List V} {ds es : List D} (h : SqT K G a xs) (hd : DtA K G xs ds) (h' : SqT K G b ys) (hd' : DtA K G ys es) : Src K G (ItzT K a b) (zipD ds es) := fun G1 H1 e1 e2 i => by
  have h1 := e2.t (e1.t h)
  have h2 := e2.t (e1.t h')
  rw [zipD_len]
  refine ⟨fun hi => ?_, fun hi => ⟨xs, ys, h1, h2, by rw [hd.len, hd'.len]; omega⟩, fun x H2 d hy he => ?_⟩
  · obtain ⟨x, hx⟩ := hd.lt (i := i) (by omega)
    obtain ⟨y, hy⟩ := hd'.lt (i := i) (by omega)
    exact ⟨xs, ys, x, y, h1, h2, hx, hy⟩
  · obtain ⟨T, v, u, rfl, hT, rfl, hv, hu⟩ := hy
    obtain ⟨d1, d2, he1, he2, rfl⟩ := zipD_get he
    exact ⟨_, Grow.new e2 hT, DtA.pair (e2.free hT) (hd.at e1 he1 (hv xs h1)) (hd'.at e1 he2 (hu ys h2))⟩
def wRev (we : DE (Kd × D)) : DE (List D) := fun ρ P => wFz we ρ ⟨fun p x ρ' => seqK x fun ds => P.ok p ds.reverse ρ', P.ex⟩
def isL1 (xs : List (Kd × D)) (q : List D → Prop) : Prop := match xs with
  | [(.fz, .lst ds)] => q ds
  | _ => False
theorem isL1_of {xs : List (Kd × D)} {q : List D → Prop} (h : isL1 xs q) : ∃ ds, xs = [(.fz, .lst ds)] ∧ q ds := by
  unfold isL1 at h
  split at h
  · exact ⟨_, rfl, h⟩
  · exact h.elim
def isL2 (xs : List (Kd × D)) (q : List D → List D → Prop) : Prop := match xs with
  | [(.fz, .lst ds), (.fz, .lst es)] => q ds es
  | [(.fz, .tup ds), (.fz, .tup es)] => q ds es
  | _ => False
theorem isL2_of {xs : List (Kd × D)} {q : List D → List D → Prop} (h : isL2 xs q) : ∃ ds es, q ds es ∧ (xs = [(.fz, .lst ds), (.fz, .lst es)] ∨ xs = [(.fz, .tup ds), (.fz, .tup es)]) := by
  unfold isL2 at h
  split at h
  · exact ⟨_, _, h, .inl rfl⟩
  · exact ⟨_, _, h, .inr rfl⟩
  · exact h.elim
def wEnum (wa : DE (List (Kd × D))) : DE (List D) := fun ρ P => wa ρ ⟨fun p xs ρ' => isL1 xs fun ds => P.ok p (enumD ds) ρ', P.ex⟩
def wZip (wa : DE (List (Kd × D))) : DE (List D) := fun ρ P => wa ρ ⟨fun p xs ρ' => isL2 xs fun ds es => P.ok p (zipD ds es) ρ', P.ex⟩
theorem ti_enum {wa : DE (List (Kd × D))} {R : It → Hp → Prop} (h : ti K W (wEnum wa) σ H R) : iEnum K (ta K W wa) σ H R := by
  obtain ⟨S, P, rfl, rfl, ok, w, k, ex⟩ := h
  refine ⟨S, _, rfl, rfl, ok, w, fun p xs T e es okT t tc vs hv => ?_, ex⟩
  have e : isL1 xs (fun ds => P.ok p (enumD ds) T.ρ) := e
  obtain ⟨ds, rfl, q⟩ := isL1_of e
  cases hv with
  | cons h1 hv =>
    cases hv
    cases h1 with
    | lst hl ha => exact ⟨_, _, rfl, L2.SqL.of (okT.ext _ _ hl), k _ _ T q es okT t tc _ (src_enum (.of hl) ha)⟩
theorem ti_zip {wa : DE (List (Kd × D))} {R : It → Hp → Prop} (h : ti K W (wZip wa) σ H R) : iZipA K (ta K W wa) σ H R := by
  obtain ⟨S, P, rfl, rfl, ok, w, k, ex⟩ := h
  refine ⟨S, _, rfl, rfl, ok, w, fun p xs T e es okT t tc vs hv => ?_, ex⟩
  have e : isL2 xs (fun ds es => P.ok p (zipD ds es) T.ρ) := e
  obtain ⟨ds, fs, q, rfl | rfl⟩ := isL2_of e
  · cases hv with
    | cons h1 hv =>
      cases hv with
      | cons h2 hv =>
        cases hv
        cases h1 with
        | lst hl ha =>
          cases h2 with
          | lst hl' ha' => exact ⟨_, _, _, _, rfl, .inl ⟨L2.SqL.of (okT.ext _ _ hl), L2.SqL.of (okT.ext _ _ hl'), k _ _ T q es okT t tc _ (src_zip (.of hl) ha (.of hl') ha')⟩⟩
  · cases hv with
    | cons h1 hv =>
      cases hv with
      | cons h2 hv =>
        cases hv
        cases h1 with
        | tup hl ha =>
          cases h2 with
          | tup hl' ha' => exact ⟨_, _, _, _, rfl, .inr ⟨okT.ext.t hl, okT.ext.t hl', k _ _ T q es okT t tc _ (src_zipT hl ha hl' ha')⟩⟩
section
variable {tg a b : Expr} {we : DE (Kd × D)} {wa : DE (List (Kd × D))} {p pos tpos : Pos} {elts : List Expr} {kk : Nat}
theorem qi_enum (hm : X.mg "enumerate" = none) (ha : PA X [a] (ta X.K W wa)) (hg : Gl X "enumerate" := by rfl) (hs : starEach [a] X.env = [(false, eval a X.env)] := by rfl) : PI X (.Tuple elts kk tpos) (.Call (.Name "enumerate" p) [a] [] pos) (ti X.K W (wEnum wa)) :=
  PI.imp (pi_enum hg hm ha hs) fun _ _ _ h => ti_enum h
theorem qi_zip (hm : X.mg "zip" = none) (ha : PA X [a, b] (ta X.K W wa)) (hg : Gl X "zip" := by rfl) (hs : starEach [a, b] X.env = (false, eval a X.env) :: starEach [b] X.env := by rfl) (hpl : (backTo pos (starEach [b] X.env)).any (·.1) = false := by rfl) :
    PI X (.Tuple elts kk tpos) (.Call (.Name "zip" p) [a, b] [] pos) (ti X.K W (wZip wa)) := PI.imp (pi_zipA hg hm ha hs hpl) fun _ _ _ h => ti_zip h
end
/-! ### comprehensions -/
def wYes : DE Bool := fun ρ P => P.ok [] true ρ
def wPtOne (t : DE Bool) : DE Bool := t
theorem tt_yes {Q : Bool → Hp → Prop} (h : tt K W wYes σ H Q) : tYes σ H Q := by
  obtain ⟨S, P, rfl, rfl, ok, w, k, _⟩ := h
  exact k _ _ S w rfl ok (Sta.refl S) (Tch.refl S _) _ rfl
theorem PTs.imp {e : List Expr} {t t' : TT} (h : PTs X e t) (k : ∀ σ H Q, t' σ H Q → t σ H Q) : PTs X e t' := ⟨fun pins s σ H Q I q => h.run pins s σ H Q I (k σ H Q q)⟩
theorem q_tsnil : PTs X [] (tt X.K W wYes) := PTs.imp pts_nil fun _ _ _ h => tt_yes h
section
variable {elt tg iter : Expr} {ifs : List Expr} {scope : Scope} {own : List (Str × Nat)} {pos : Pos} {wi : DE (List D)} {g : DG} {t : DE Bool} {we : DE (Kd × D)}
theorem q_lc (q : List Nat) (hc : X.calm = true) (hN : X.N.Nodup) (hi : PI X tg iter (ti X.K W wi)) (ok : BlkOk X.N X.env.scope scope own)
    (hg : ∀ (s : Shared) (H : Hp) (C : Addr) (cl : List (Str × Addr)) (fp : List Addr), PG (X.blk s H scope (compEnvC scope cl C X.env) fp) tg (VL.tg X.K (own.map (·.2)) g)) (ht : ∀ (s : Shared) (H : Hp) (C : Addr) (cl : List (Str × Addr)) (fp : List Addr), PTs (X.blk s H scope (compEnvC scope cl C X.env) fp) ifs (tt X.K (fun _ _ _ _ => False) t))
    (he : ∀ (s : Shared) (H : Hp) (C : Addr) (cl : List (Str × Addr)) (fp : List Addr), PE (X.blk s H scope (compEnvC scope cl C X.env) fp) elt (te X.K (fun _ _ _ _ => False) we)) (hs : ∀ x, foldedSetIterable iter X.env x = pure x := by intro _; rfl) :
    PE X (.ListComp elt [⟨tg, iter, ifs, 0⟩] scope pos) (te X.K W (wLc wi g t we (own.map (·.2)) q)) := PE.imp (pe_lc hc hN hi ok hg ht he hs) fun _ _ _ h => te_lc h
end
end
end VL

namespace VL
open PySem PySem.Spec PyProof.Rows L2
section
variable {K : PySem.W.Frag} {W : WX} {G G' H H' H0 : Hp} {σ : L2.St} {ρ : Rho} {f f' : Own} {pin : Nat → Option V} {X : Cx} {S S0 S1 T T1 T2 U : Sta} {E : En} {Z : Ends}
/-! ### a thing in a slot is changed -/
theorem mut_state {i : Nat} {p : List Nat} {m : Md} {a : Addr} {o' : HO} {d d' : D} {fq fq' : List Addr} (ok : T.ok K) (l : Lent K T i p m (.ref a) d fq) (ha : a ∈ fq) (r : R K T.G (upd T.H a o') m (.ref a) d' fq') (n : fq'.Nodup) (s : ∀ b ∈ fq', b ∈ fq) :
    ∃ f2 : Own, Sx K T.pin T.G (upd T.H a o') T.σ (setAt T.ρ i p d') f2 ∧ T.to ⟨T.pin, T.G, upd T.H a o', T.σ, setAt T.ρ i p d', f2⟩ ∧ Tch [i] T ⟨T.pin, T.G, upd T.H a o', T.σ, setAt T.ρ i p d', f2⟩ := by
  obtain ⟨m0, d0, v0, h1, h2, hb⟩ := l.back
  have hai : a ∈ T.f i := l.sub a ha
  obtain ⟨fr, r2, n2, s2⟩ := hb T.G (upd T.H a o') d' fq' (Ex.refl _) (fun b _ hn => upd_ne fun z : b = a => hn (by rw [z]; exact ha)) r n (fun b hb => .inl (s b hb))
  have frs : ∀ b ∈ fr, b ∈ T.f i := fun b hb => by
    rcases s2 b hb with q | q
    · exact q.1
    · exact l.sub b (s b q)
  have ga : T.G a = none := ok.out i a hai
  have oth : ∀ j, j ≠ i → ∀ b ∈ T.f j, upd T.H a o' b = T.H b := fun j c b hb => upd_ne fun z : b = a => c (ok.dj j i b hb (by rw [z]; exact hai))
  refine ⟨T.f.set i fr, ?_, ⟨⟨Ex.refl _, fun b o ho hn => ?_, fun _ _ _ => rfl, fun b ⟨j, hj⟩ => .inl ?_, fun b hb => ?_⟩, rfl⟩, fun j hj => ?_⟩
  · exact {
      ext := fun b u e => by rw [upd_ne (ne_of_none e ga)]; exact ok.ext b u e
      len := by rw [setAt_len]; exact ok.len
      slot := fun j m' d1 e => by
        by_cases c : j = i
        · subst c
          rw [setAt_eq h1] at e; cases e
          exact ⟨v0, h2, by rw [Own.set_same]; exact r2⟩
        · rw [setAt_ne c] at e
          obtain ⟨u, g1, g2⟩ := ok.slot j m' d1 e
          exact ⟨u, g1, by rw [Own.set_ne c]; exact g2.keep (Ex.refl _) fun b hb o ho => by rw [oth j c b hb]; exact ho⟩
      emp := fun j e => by
        by_cases c : j = i
        · subst c; exact absurd (setAt_eq h1) (e _ _)
        · rw [Own.set_ne c]; exact ok.emp j fun m' d1 q => e m' d1 (by rw [setAt_ne c]; exact q)
      nd := fun j => by
        by_cases c : j = i
        · subst c; rw [Own.set_same]; exact n2
        · rw [Own.set_ne c]; exact ok.nd j
      dj := fun j j' b h h' => by
        have q : ∀ k, b ∈ T.f.set i fr k → b ∈ T.f k := fun k hk => by
          by_cases c : k = i
          · subst c; rw [Own.set_same] at hk; exact frs b hk
          · rw [Own.set_ne c] at hk; exact hk
        exact ok.dj _ _ b (q j h) (q j' h')
      out := fun j b h => by
        by_cases c : j = i
        · subst c; rw [Own.set_same] at h; exact ok.out _ b (frs b h)
        · rw [Own.set_ne c] at h; exact ok.out j b h
      pins := fun j m' d1 e => by
        by_cases c : j = i
        · subst c
          rw [setAt_eq h1] at e; cases e
          exact ok.pins j _ _ h1
        · rw [setAt_ne c] at e; exact ok.pins j m' d1 e }
  · show upd T.H a o' b = _
    rw [upd_ne fun z : b = a => hn ⟨i, by rw [z]; exact hai⟩]; exact ho
  · by_cases c : j = i
    · subst c
      have hj' : b ∈ T.f.set j fr j := hj
      rw [Own.set_same] at hj'; exact ⟨j, frs b hj'⟩
    · have hj' : b ∈ T.f.set i fr j := hj
      rw [Own.set_ne c] at hj'; exact ⟨j, hj'⟩
  · show upd T.H a o' b ≠ none
    by_cases c : b = a
    · subst c; rw [upd_same]; exact fun z => nomatch z
    · rw [upd_ne c]; exact hb
  · have c : j ≠ i := fun z => hj (by rw [z]; exact List.mem_cons_self)
    exact ⟨setAt_ne c, Own.set_ne c, fun b hb o ho => by
      show upd T.H a o' b = _
      rw [oth j c b hb]; exact ho⟩
/-! ### fields -/
theorem DtF.names : ∀ {fs : List (Str × V)} {ds : List (Str × D)}, DtF K G fs ds → fs.map (·.1) = ds.map (·.1)
  | _, _, .nil => rfl
  | _, _, .cons h t => by simp [DtF.names t]
theorem RF.names : ∀ {ms : List Md} {fs : List (Str × V)} {ds : List (Str × D)} {fp : List Addr}, RF K G H ms fs ds fp → fs.map (·.1) = ds.map (·.1)
  | _, _, _, _, .nil => rfl
  | _, _, _, _, .cons h t => by simp [RF.names t]
theorem lookup_at {β : Type} : ∀ {fs : List (Str × β)} {j : Nat} {k : Str} {v : β}, (fs.map (·.1)).Nodup → fs[j]? = some (k, v) → fs.lookup k = some v
  | [], _, _, _, _, h => by simp at h
  | (k', v') :: fs, 0, k, v, _, h => by
    simp at h
    obtain ⟨rfl, rfl⟩ := h
    simp [List.lookup_cons]
  | (k', v') :: fs, j + 1, k, v, n, h => by
    rw [List.map_cons] at n
    have n' := List.nodup_cons.mp n
    have h' : fs[j]? = some (k, v) := by simpa using h
    have c : (k == k') = false := by
      rw [beq_eq_false_iff_ne]
      rintro rfl
      exact n'.1 (List.mem_map.mpr ⟨(k, v), List.mem_of_getElem? h', rfl⟩)
    rw [List.lookup_cons, c]
    exact lookup_at n'.2 h'
theorem lookup_out {β : Type} : ∀ {fs : List (Str × β)} {k : Str}, k ∉ fs.map (·.1) → fs.lookup k = none
  | [], _, _ => rfl
  | (k', v') :: fs, k, h => by
    have c : (k == k') = false := by
      rw [beq_eq_false_iff_ne]
      rintro rfl
      exact h (by simp)
    rw [List.lookup_cons, c]
    exact lookup_out fun z => h (by simp only [List.map_cons, List.mem_cons]; exact .inr z)
theorem DtF.at : ∀ {fs : List (Str × V)} {ds : List (Str × D)} {j : Nat} {k : Str} {d : D}, DtF K G fs ds → ds[j]? = some (k, d) → ∃ v, fs[j]? = some (k, v) ∧ Dt K G v d
  | _, _, _, _, _, .nil, h => by simp at h
  | _, _, 0, _, _, .cons h t, e => by
    simp at e
    obtain ⟨rfl, rfl⟩ := e
    exact ⟨_, rfl, h⟩
  | _, _, j + 1, _, _, .cons h t, e => by
    obtain ⟨v, e1, h1⟩ := DtF.at t (j := j) (by simpa using e)
    exact ⟨v, by simpa using e1, h1⟩
theorem RF.at : ∀ {ms : List Md} {fs : List (Str × V)} {ds : List (Str × D)} {fp : List Addr} {j : Nat} {k : Str} {d : D}, RF K G H ms fs ds fp → ds[j]? = some (k, d) → ∃ v, fs[j]? = some (k, v)
  | _, _, _, _, _, _, _, .nil, h => by simp at h
  | _, _, _, _, 0, _, _, .cons h t, e => by
    simp at e
    obtain ⟨rfl, rfl⟩ := e
    exact ⟨_, rfl⟩
  | _, _, _, _, j + 1, _, _, .cons h t, e => by
    obtain ⟨v, e1⟩ := RF.at t (j := j) (by simpa using e)
    exact ⟨v, by simpa using e1⟩
/-- the field f, the j-th, of an instance of C -/
def fldK (C : Addr) (f : Str) (j : Nat) (x : Kd × D) (q : Kd × D → Prop) : Prop := match x with
  | (.fz, .obj C' fs) => C' = C ∧ match fs[j]? with
    | some (k, d) => k = f ∧ q (.fz, d)
    | none => False
  | (.bor i p (.O ms), .obj C' fs) => C' = C ∧ match fs[j]?, ms[j]? with
    | some (k, d), some m => k = f ∧ q (kAt i (p ++ [j]) m, d)
    | _, _ => False
  | _ => False
theorem fldK_of {C : Addr} {f : Str} {j : Nat} {x : Kd × D} {q : Kd × D → Prop} (h : fldK C f j x q) :
    ∃ fs d, fs[j]? = some (f, d) ∧ ((x = (.fz, .obj C fs) ∧ q (.fz, d)) ∨ ∃ i p ms m, x = (.bor i p (.O ms), .obj C fs) ∧ ms[j]? = some m ∧ q (kAt i (p ++ [j]) m, d)) := by
  unfold fldK at h
  split at h
  · obtain ⟨rfl, h⟩ := h
    split at h
    · rename_i e
      obtain ⟨rfl, h⟩ := h
      exact ⟨_, _, e, .inl ⟨rfl, h⟩⟩
    · exact h.elim
  · obtain ⟨rfl, h⟩ := h
    split at h
    · rename_i e e'
      obtain ⟨rfl, h⟩ := h
      exact ⟨_, _, e, .inr ⟨_, _, _, _, rfl, e', h⟩⟩
    · exact h.elim
  · exact h.elim
def wFld (C : Addr) (f : Str) (j : Nat) (we : DE (Kd × D)) : DE (Kd × D) := fun ρ P => we ρ ⟨fun p x ρ' => fldK C f j x fun z => P.ok p z ρ', P.ex⟩
theorem Rch.snoc_ins : ∀ {H : Hp} {v0 v x : V} {p : List Nat} {a C dx : Addr} {fs : List (Str × V)} {j : Nat} {k : Str}, Rch H v0 p v → v = .ref a → H a = some (.ins C dx fs) → fs[j]? = some (k, x) → Rch H v0 (p ++ [j]) x
  | _, _, _, _, _, _, _, _, _, _, _, .here, e, h, i => by subst e; exact .ins h i .here
  | _, _, _, _, _, _, _, _, _, _, _, .lst h1 i1 t, e, h, i => .lst h1 i1 (Rch.snoc_ins t e h i)
  | _, _, _, _, _, _, _, _, _, _, _, .ins h1 i1 t, e, h, i => .ins h1 i1 (Rch.snoc_ins t e h i)
  | _, _, _, _, _, _, _, _, _, _, _, .tup h1 i1 t, e, h, i => .tup h1 i1 (Rch.snoc_ins t e h i)
  | _, _, _, _, _, _, _, _, _, _, _, .dK h1 i1 t, e, h, i => .dK h1 i1 (Rch.snoc_ins t e h i)
theorem mAt_snoc : ∀ {p : List Nat} {m0 m m' : Md} {j : Nat}, mAt m0 p = some m → mKid m j = some m' → mAt m0 (p ++ [j]) = some m'
  | [], _, _, _, _, e, k => by
    simp [mAt] at e
    subst e
    simp [mAt, k]
  | i :: p, m0, _, _, _, e, k => by
    simp only [mAt] at e
    split at e
    · rename_i m1 e1
      show (match mKid m0 i with | some m' => mAt m' (p ++ _) | none => none) = _
      rw [e1]
      exact mAt_snoc e k
    · cases e
theorem dAt_snoc : ∀ {p : List Nat} {m0 m m' : D} {j : Nat}, dAt m0 p = some m → dKid m j = some m' → dAt m0 (p ++ [j]) = some m'
  | [], _, _, _, _, e, k => by
    simp [dAt] at e
    subst e
    simp [dAt, k]
  | i :: p, m0, _, _, _, e, k => by
    simp only [dAt] at e
    split at e
    · rename_i m1 e1
      show (match dKid m0 i with | some m' => dAt m' (p ++ _) | none => none) = _
      rw [e1]
      exact dAt_snoc e k
    · cases e
/-- the instance of a value of the kind bor i p (O ms) -/
theorem Has.ins (ok : T.ok K) {i : Nat} {p : List Nat} {ms : List Md} {v : V} {C : Addr} {fs : List (Str × D)} (h : Has K S0 T (.bor i p (.O ms)) v (.obj C fs)) : ∃ a dx vs fp, v = .ref a ∧ T.H a = some (.ins C dx vs) ∧ (fs.map (·.1)).Nodup ∧ RF K T.G T.H ms vs fs fp := by
  obtain ⟨fq, r, _⟩ := h.bor_R ok
  cases r with
  | O h n t => exact ⟨_, _, _, _, rfl, h, n, t⟩
theorem te_fld {C : Addr} {f : Str} {j : Nat} {we : DE (Kd × D)} {Q : VK} (c : Cls K C) (na : NoAttr K C f) (h : te K W (wFld C f j we) σ H Q) : tFld K (te K W we) f σ H Q := by
  obtain ⟨S, P, rfl, rfl, ok, w, k, ex⟩ := h
  refine ⟨S, _, rfl, rfl, ok, w, fun p x T e es okT t tc v hv => ?_, ex⟩
  have e : fldK C f j x (fun z => P.ok p z T.ρ) := e
  obtain ⟨fs, d, ej, ⟨rfl, q⟩ | ⟨i, pp, ms, m, rfl, em, q⟩⟩ := fldK_of e
  · cases hv with
    | obj hG n hf =>
      obtain ⟨y, e1, h1⟩ := hf.at ej
      exact ⟨_, _, _, _, y, rfl, okT.ext _ _ hG, c, na, lookup_at (by rw [hf.names]; exact n) e1, k _ _ T q es okT t tc y h1⟩
  · obtain ⟨a, dx, vs, fp, rfl, ha, n, hf⟩ := hv.ins okT
    obtain ⟨y, e1⟩ := hf.at ej
    obtain ⟨m0, d0, v0, h1, h2, h3, h4, h5⟩ := hv
    refine ⟨_, _, _, _, y, rfl, ha, c, na, lookup_at (by rw [hf.names]; exact n) e1, k _ _ T q es okT t tc y ?_⟩
    exact Has.of_at okT h1 h2 (Rch.snoc_ins h3 rfl ha e1) (mAt_snoc h4 em) (dAt_snoc h5 (by simp only [dKid, ej]))
theorem q_fld (C : Addr) (j : Nat) {e : Expr} {f : Str} {pos : Pos} {we : DE (Kd × D)} (c : Cls X.K C) (na : NoAttr X.K C f) (he : PE X e (te X.K W we)) (hb : attributeBase e f X.env (eval e X.env) = eval e X.env := by rfl) : PE X (.Attribute e f pos) (te X.K W (wFld C f j we)) :=
  PE.imp (pe_fld he hb) fun _ _ _ h => te_fld c na h
/-! ### a field is stored: the instance stands in a slot -/
def Md.re : Md → Md → Md
  | .P m, x => .P (m.re x)
  | _, x => x
theorem R.re : ∀ {m : Md} {v : V} {d : D} {fp : List Addr} {x : Md}, R K G H x v d fp → R K G H (m.re x) v d fp
  | .F, _, _, _, _, h => h
  | .L _, _, _, _, _, h => h
  | .K, _, _, _, _, h => h
  | .N, _, _, _, _, h => h
  | .M _, _, _, _, _, h => h
  | .O _, _, _, _, _, h => h
  | .T _, _, _, _, _, h => h
  | .A _, _, _, _, _, h => h
  | .P m, _, _, _, _, h => .P (R.re (m := m) h)
theorem Md.re_P {m x m1 : Md} (h : m.re x = .P m1) (hx : notP x = true) : ∃ m2, m = .P m2 := by
  cases m with
  | P m => exact ⟨m, rfl⟩
  | _ => simp [Md.re] at h; subst h; cases hx
/-- a slot keeps its thing, whose object is another now -/
theorem remode_state {i : Nat} {m0 m1 : Md} {a : Addr} {o' : HO} {d0 d1 : D} {fr : List Addr} (ok : T.ok K) (h1 : T.ρ[i]? = some (some (m0, d0))) (h2 : T.σ[i]? = some (some (.ref a))) (hai : a ∈ T.f i) (hm : notP m1 = true) (r : R K T.G (upd T.H a o') m1 (.ref a) d1 fr) (n : fr.Nodup) (s : ∀ b ∈ fr, b ∈ T.f i ∨ (T.G b = none ∧ ¬ Ow T.f b ∧ Nw S b)) (t : S.to T) :
    Sx K T.pin T.G (upd T.H a o') T.σ (T.ρ.set i (some (m0.re m1, d1))) (T.f.set i fr) ∧ S.to ⟨T.pin, T.G, upd T.H a o', T.σ, T.ρ.set i (some (m0.re m1, d1)), T.f.set i fr⟩ := by
  have ga : T.G a = none := ok.out i a hai
  have hlt := (List.getElem?_eq_some_iff.mp h1).1
  have oth : ∀ j, j ≠ i → ∀ b ∈ T.f j, upd T.H a o' b = T.H b := fun j c b hb => upd_ne fun z : b = a => c (ok.dj j i b hb (by rw [z]; exact hai))
  refine ⟨?_, ⟨⟨t.stp.gext, fun b o ho hn => ?_, t.stp.gold, fun b ⟨j, hj⟩ => ?_, fun b hb => ?_⟩, t.pin⟩⟩
  · exact {
      ext := fun b u e => by rw [upd_ne (ne_of_none e ga)]; exact ok.ext b u e
      len := by simp [ok.len]
      slot := fun j m' d1 e => by
        by_cases c : j = i
        · subst c
          rw [List.getElem?_set_self hlt] at e; cases e
          exact ⟨_, h2, by rw [Own.set_same]; exact r.re⟩
        · rw [List.getElem?_set_ne (Ne.symm c)] at e
          obtain ⟨u, g1, g2⟩ := ok.slot j m' d1 e
          exact ⟨u, g1, by rw [Own.set_ne c]; exact g2.keep (Ex.refl _) fun b hb o ho => by rw [oth j c b hb]; exact ho⟩
      emp := fun j e => by
        by_cases c : j = i
        · subst c; exact absurd (List.getElem?_set_self hlt) (e _ _)
        · rw [Own.set_ne c]; exact ok.emp j fun m' d1 q => e m' d1 (by rw [List.getElem?_set_ne (Ne.symm c)]; exact q)
      nd := fun j => by
        by_cases c : j = i
        · subst c; rw [Own.set_same]; exact n
        · rw [Own.set_ne c]; exact ok.nd j
      dj := fun j j' b h h' => by
        by_cases c : j = i
        · subst c
          by_cases c' : j' = j
          · exact c'.symm
          · rw [Own.set_same] at h
            rw [Own.set_ne c'] at h'
            rcases s b h with q | q
            · exact ok.dj _ _ b q h'
            · exact absurd ⟨j', h'⟩ q.2.1
        · rw [Own.set_ne c] at h
          by_cases c' : j' = i
          · subst c'
            rw [Own.set_same] at h'
            rcases s b h' with q | q
            · exact ok.dj _ _ b h q
            · exact absurd ⟨j, h⟩ q.2.1
          · rw [Own.set_ne c'] at h'
            exact ok.dj _ _ b h h'
      out := fun j b h => by
        by_cases c : j = i
        · subst c; rw [Own.set_same] at h
          rcases s b h with q | q
          · exact ok.out _ b q
          · exact q.1
        · rw [Own.set_ne c] at h; exact ok.out j b h
      pins := fun j m' d1 e => by
        by_cases c : j = i
        · subst c
          rw [List.getElem?_set_self hlt] at e
          have e9 := congrArg (fun z => z.map (fun z => z.map Prod.fst)) e
          simp at e9
          obtain ⟨m2, rfl⟩ := Md.re_P e9 hm
          obtain ⟨u, q1, q2⟩ := ok.pins j _ _ h1
          exact ⟨u, q1, q2⟩
        · rw [List.getElem?_set_ne (Ne.symm c)] at e; exact ok.pins j m' d1 e }
  · show upd T.H a o' b = _
    by_cases c : b = a
    · subst c
      rcases t.stp.fnew b ⟨i, hai⟩ with z | z
      · exact absurd z hn
      · rw [ho] at z; cases z
    · rw [upd_ne c]; exact t.stp.keep b o ho hn
  · by_cases c : j = i
    · subst c
      have hj' : b ∈ T.f.set j fr j := hj
      rw [Own.set_same] at hj'
      rcases s b hj' with q | q
      · exact t.stp.fnew b ⟨j, q⟩
      · exact q.2.2
    · have hj' : b ∈ T.f.set i fr j := hj
      rw [Own.set_ne c] at hj'; exact t.stp.fnew b ⟨j, hj'⟩
  · show upd T.H a o' b ≠ none
    by_cases c : b = a
    · subst c; rw [upd_same]; exact fun z => nomatch z
    · rw [upd_ne c]; exact t.stp.trk b hb
theorem RF.put : ∀ {ms : List Md} {fs : List (Str × V)} {ds : List (Str × D)} {fp : List Addr} {j : Nat} {k : Str} {d0 d : D} {m : Md} {y : V} {fq : List Addr}, RF K G H ms fs ds fp → (ds.map (·.1)).Nodup → fp.Nodup → ds[j]? = some (k, d0) → R K G H m y d fq → fq.Nodup → (∀ a ∈ fq, a ∉ fp) →
    ∃ fr, RF K G H (ms.set j m) (putF k y fs) (ds.set j (k, d)) fr ∧ fr.Nodup ∧ ∀ a ∈ fr, a ∈ fp ∨ a ∈ fq
  | _, _, _, _, _, _, _, _, _, _, _, .nil, _, _, h, _, _, _ => by simp at h
  | _, _, _, _, 0, k, _, d, m, y, fq, .cons (m := m0) (ms := ms) (fp := fp0) (fq := fq0) r t, _, n, h, r', n', dj => by
    simp at h
    obtain ⟨rfl, rfl⟩ := h
    have nn := List.nodup_append.mp n
    refine ⟨fq ++ fq0, ?_, List.nodup_append.mpr ⟨n', nn.2.1, fun a ha b hb c => ?_⟩, fun a ha => ?_⟩
    · simp only [putF, if_true, List.set_cons_zero]
      exact .cons r' t
    · subst c; exact dj a ha (List.mem_append_right _ hb)
    · rcases List.mem_append.mp ha with q | q
      · exact .inr q
      · exact .inl (List.mem_append_right _ q)
  | _, _, _, _, j + 1, k, d1, d, m, y, fq, .cons (m := m0) (ms := ms) (k := k0) (fp := fp0) (fq := fq0) r t, n0, n, h, r', n', dj => by
    have nn := List.nodup_append.mp n
    rw [List.map_cons] at n0
    have n1 := List.nodup_cons.mp n0
    rename_i v0 dv0 vs ds
    have h' : ds[j]? = some (k, d1) := by simpa using h
    obtain ⟨fr, r2, n2, s2⟩ := RF.put t n1.2 nn.2.1 h' r' n' fun a ha c => dj a ha (List.mem_append_right _ c)
    have c : ¬ k0 = k := by
      rintro rfl
      exact n1.1 (List.mem_map.mpr ⟨(k0, d1), List.mem_of_getElem? h', rfl⟩)
    refine ⟨fp0 ++ fr, ?_, List.nodup_append.mpr ⟨nn.1, n2, fun a ha b hb z => ?_⟩, fun a ha => ?_⟩
    · simp only [putF, if_neg c, List.set_cons_succ]
      exact .cons r r2
    · subst z
      rcases s2 a hb with q | q
      · exact nn.2.2 a ha a q rfl
      · exact dj a q (List.mem_append_left _ ha)
    · rcases List.mem_append.mp ha with q | q
      · exact .inl (List.mem_append_left _ q)
      · rcases s2 a q with q | q
        · exact .inl (List.mem_append_right _ q)
        · exact .inr q
theorem RF.app : ∀ {ms : List Md} {fs : List (Str × V)} {ds : List (Str × D)} {fp : List Addr} {k : Str} {d : D} {m : Md} {y : V} {fq : List Addr}, RF K G H ms fs ds fp → k ∉ ds.map (·.1) → fp.Nodup → R K G H m y d fq → fq.Nodup → (∀ a ∈ fq, a ∉ fp) →
    ∃ fr, RF K G H (ms ++ [m]) (putF k y fs) (ds ++ [(k, d)]) fr ∧ fr.Nodup ∧ ∀ a ∈ fr, a ∈ fp ∨ a ∈ fq
  | _, _, _, _, k, d, m, y, fq, .nil, _, _, r', n', _ => ⟨fq, by
      have := RF.cons (k := k) r' (RF.nil (K := K) (G := G) (H := H))
      rw [List.append_nil] at this
      exact this, n', fun a ha => .inr ha⟩
  | _, _, _, _, k, d, m, y, fq, .cons (m := m0) (ms := ms) (k := k0) (fp := fp0) (fq := fq0) r t, h0, n, r', n', dj => by
    have nn := List.nodup_append.mp n
    obtain ⟨fr, r2, n2, s2⟩ := RF.app (k := k) t (fun z => h0 (by simp only [List.map_cons, List.mem_cons]; exact .inr z)) nn.2.1 r' n' fun a ha c => dj a ha (List.mem_append_right _ c)
    have c : ¬ k0 = k := by
      rintro rfl
      exact h0 (by simp)
    refine ⟨fp0 ++ fr, ?_, List.nodup_append.mpr ⟨nn.1, n2, fun a ha b hb z => ?_⟩, fun a ha => ?_⟩
    · simp only [putF, if_neg c, List.cons_append]
      exact .cons r r2
    · subst z
      rcases s2 a hb with q | q
      · exact nn.2.2 a ha a q rfl
      · exact dj a q (List.mem_append_left _ ha)
    · rcases List.mem_append.mp ha with q | q
      · exact .inl (List.mem_append_left _ q)
      · rcases s2 a q with q | q
        · exact .inl (List.mem_append_right _ q)
        · exact .inr q
/-- the value's kind as a mode -/
def Kd.md : Kd → Option Md
  | .fz => some .F
  | .new m => some m
  | .bor _ _ _ => none
/-- slot i's instance of C gets the field f, the j-th: a new one where it has j fields -/
def putFldK (i : Nat) (C : Addr) (f : Str) (j : Nat) (x : Kd × D) (ρ : Rho) (q : Rho → Prop) : Prop := match x.1.md, ρ[i]? with
  | some mx, some (some (m, .obj C' fs)) => (C' = C ∧ notP mx = true ∧ Nat.ble fs.length 900 = true) ∧ match m.st with
    | .O ms => match fs[j]? with
      | some (k, _) => k = f ∧ q (ρ.set i (some (m.re (.O (ms.set j mx)), .obj C (fs.set j (f, x.2)))))
      | none => (fs.map (·.1)).contains f = false ∧ q (ρ.set i (some (m.re (.O (ms ++ [mx])), .obj C (fs ++ [(f, x.2)]))))
    | _ => False
  | _, _ => False
theorem R.stO : ∀ {m : Md} {v : V} {d : D} {fp : List Addr} {ms : List Md}, R K G H m v d fp → m.st = .O ms → R K G H (.O ms) v d fp
  | m, _, _, _, _, h, e => by
    have := h.strip
    rw [e] at this
    exact this
theorem Has.own_of {kd : Kd} {m : Md} {v : V} {d : D} (h : Has K S0 T kd v d) (e : kd.md = some m) : ∃ fp, R K T.G T.H m v d fp ∧ fp.Nodup ∧ ∀ a ∈ fp, T.G a = none ∧ ¬ Ow T.f a ∧ Nw S0 a := by
  cases kd with
  | fz => cases e; exact ⟨[], .F h, List.nodup_nil, fun _ h => nomatch h⟩
  | new m => cases e; exact h
  | bor i p m => cases e
/-- slot i holds an instance -/
def wPutF (i : Nat) (C : Addr) (f : Str) (j : Nat) (we : DE (Kd × D)) : DS := fun E ρ => we ρ ⟨fun _ x ρ' => putFldK i C f j x ρ' E.nx, E.ex⟩
theorem putFld_of {i : Nat} {C : Addr} {f : Str} {j : Nat} {x : Kd × D} {v : V} {q : Rho → Prop} (okT : T.ok K) (t : S.to T) (hv : Has K S T x.1 v x.2) (h : putFldK i C f j x T.ρ q) :
    ∃ a dx fs fs' U, T.σ[i]? = some (some (.ref a)) ∧ T.H a = some (.ins C dx fs) ∧ fs.length < 1000 ∧ fs' = putF f v fs ∧ (fs.lookup f).isSome = (match T.ρ[i]? with | some (some (_, .obj _ ds)) => (ds[j]?).isSome | _ => false) ∧ U.ok K ∧ S.to U ∧ q U.ρ ∧ U.σ = T.σ ∧ U.H = upd T.H a (.ins C dx fs') := by
  unfold putFldK at h
  split at h
  · rename_i mx m C' ds ex eρ
    obtain ⟨⟨rfl, np, sz⟩, h⟩ := h
    split at h
    · rename_i ms em
      obtain ⟨v0, h2, r0⟩ := okT.slot i _ _ eρ
      have r1 := r0.stO em
      generalize hfi : T.f i = fi at r1
      have ni := okT.nd i
      rw [hfi] at ni
      cases r1 with
      | @O _ a _ dx vs _ fp ha n0 rf =>
        obtain ⟨fq, rq, nq, kq⟩ := hv.own_of ex
        have na := List.nodup_cons.mp ni
        have hlen : vs.length < 1000 := by
          have e9 := congrArg List.length rf.names
          rw [List.length_map, List.length_map] at e9
          have := Nat.le_of_ble_eq_true sz
          omega
        have hai : a ∈ T.f i := by rw [hfi]; exact List.mem_cons_self
        have aq : a ∉ fq := fun z => (kq a z).2.1 ⟨i, hai⟩
        have dj : ∀ b ∈ fq, b ∉ fp := fun b hb z => (kq b hb).2.1 ⟨i, by rw [hfi]; exact List.mem_cons_of_mem _ z⟩
        have kp : ∀ o', RF K T.G (upd T.H a o') ms vs ds fp := fun o' => rf.keep (Ex.refl _) fun b hb o ho => by
          rw [upd_ne fun z : b = a => na.1 (by rw [← z]; exact hb)]; exact ho
        have kr : ∀ o', R K T.G (upd T.H a o') mx v x.2 fq := fun o' => rq.keep (Ex.refl _) fun b hb o ho => by
          rw [upd_ne fun z : b = a => aq (by rw [← z]; exact hb)]; exact ho
        have fin : ∀ (ms' : List Md) (ds' : List (Str × D)) (fr : List Addr), (ds'.map (·.1)).Nodup → RF K T.G (upd T.H a (.ins C' dx (putF f v vs))) ms' (putF f v vs) ds' fr → fr.Nodup → (∀ b ∈ fr, b ∈ fp ∨ b ∈ fq) → q (T.ρ.set i (some (m.re (.O ms'), .obj C' ds'))) →
            ∃ U : Sta, U.ok K ∧ S.to U ∧ q U.ρ ∧ U.σ = T.σ ∧ U.H = upd T.H a (.ins C' dx (putF f v vs)) := fun ms' ds' fr n' rf' nr sr hq => by
          have r9 : R K T.G (upd T.H a (.ins C' dx (putF f v vs))) (.O ms') (.ref a) (.obj C' ds') (a :: fr) := .O upd_same n' rf'
          have z := remode_state (S := S) okT eρ h2 hai rfl r9 (List.nodup_cons.mpr ⟨fun z => (sr a z).elim na.1 aq, nr⟩) (fun b hb => by
            rcases List.mem_cons.mp hb with rfl | hb
            · exact .inl hai
            · rcases sr b hb with z | z
              · exact .inl (by rw [hfi]; exact List.mem_cons_of_mem _ z)
              · exact .inr (kq b z)) t
          exact ⟨_, z.1, z.2, hq, rfl, rfl⟩
        split at h
        · rename_i k d0 ej
          obtain ⟨rfl, h⟩ := h
          obtain ⟨fr, r9, n9, s9⟩ := RF.put (kp _) n0 na.2 ej (kr (.ins C' dx (putF k v vs))) nq dj
          obtain ⟨U, u1, u2, u3, u4, u5⟩ := fin _ _ fr (by
            have : (ds.set j (k, x.2)).map (·.1) = ds.map (·.1) := by
              rw [List.map_set]
              refine List.ext_getElem? fun l => ?_
              by_cases c : l = j
              · subst c
                by_cases hl : l < (ds.map (·.1)).length
                · rw [List.getElem?_set_self hl]; simp [ej]
                · rw [List.getElem?_eq_none (by rw [List.length_set]; omega), List.getElem?_eq_none (by omega)]
              · rw [List.getElem?_set_ne (Ne.symm c)]
            rw [this]; exact n0) r9 n9 s9 h
          obtain ⟨y, e1⟩ := rf.at ej
          refine ⟨a, dx, vs, _, U, h2, ha, hlen, rfl, ?_, u1, u2, u3, u4, u5⟩
          rw [lookup_at (by rw [rf.names]; exact n0) e1, eρ]
          simp [ej]
        · rename_i ej
          have nc : f ∉ ds.map (·.1) := by simpa using h.1
          obtain ⟨fr, r9, n9, s9⟩ := RF.app (kp _) nc na.2 (kr (.ins C' dx (putF f v vs))) nq dj
          obtain ⟨U, u1, u2, u3, u4, u5⟩ := fin _ _ fr (by
            rw [List.map_append]
            exact List.nodup_append.mpr ⟨n0, by simp, fun b hb c hc z => by
              subst z
              simp at hc
              subst hc
              exact nc hb⟩) r9 n9 s9 h.2
          refine ⟨a, dx, vs, _, U, h2, ha, hlen, rfl, ?_, u1, u2, u3, u4, u5⟩
          rw [lookup_out (by rw [rf.names]; exact nc), eρ]
          simp [ej]
    · exact h.elim
  · exact h.elim
theorem ts_putF {i : Nat} {C : Addr} {f : Str} {j : Nat} {we : DE (Kd × D)} (c : Cls K C) (na : NoAttr K C f) (h : ts K W (wPutF i C f j we) Z σ H) : sFld K (tVar i) (te K W we) f Z σ H := by
  obtain ⟨S, E, rfl, rfl, ok, w, l⟩ := h
  unfold sFld
  refine te_in ok l w fun p x T e es okT t _ v hv => ?_
  obtain ⟨a, dx, fs, _, U, h2, ha, hl, rfl, _, okU, tU, q, uσ, uH⟩ := putFld_of okT t hv e
  refine ⟨.ref a, by rw [← es]; exact h2, a, C, dx, fs, rfl, ha, c, na, hl, ?_⟩
  have z := l.nx U q okU tU
  rw [uσ, uH, es] at z
  exact z
theorem q_putF (i : Nat) (C : Addr) (j : Nat) {x f : Str} {value : Expr} {we : DE (Kd × D)} {px pos pos' : Pos} (c : Cls X.K C) (na : NoAttr X.K C f) (hv : PE X value (te X.K W we)) (hN : X.N[i]? = some x := by rfl) (hvis : Vis X.env.scope x := by first | exact Or.inl rfl | exact Or.inr (Or.inl rfl) | exact Or.inr (Or.inr rfl)) (hd : (x == ("__debug__" : Str)) = false := by decide)
    (hcd : (x == ("__classdict__" : Str)) = false := by decide) (hs : swapsWith value (some (.Attribute (.Name x px) f pos')) pos.line X.env = pure false := by rfl) : PS X (.Assign [.Attribute (.Name x px) f pos'] value pos) (ts X.K W (wPutF i C f j we)) :=
  PS.imp (ps_fld (pv i hN hvis hd hcd) hv hs) fun _ _ _ h => ts_putF c na h
/-! ### a list, a dict changed by a method, by a store -/
/-- what a list's method does: the items, the arguments, the items behind and the answer -/
abbrev OM := List D → List D → (List D → D → Prop) → Prop
def OkML (K : PySem.W.Frag) (r : V → List V → Hp → VK → Prop) (o : OM) : Prop :=
  ∀ (G H : Hp) (a : Addr) (xs : List V) (ds : List D) (vs : List V) (es : List D) (Q : VK) (q : List D → D → Prop), Ex G H → H a = some (.lst xs) → G a = none → DtA K G xs ds → DtA K G vs es → o ds es q →
    (∀ ds' z, q ds' z → ∀ (xs' : List V) (v : V), DtA K G xs' ds' → Dt K G v z → Q v (upd H a (.lst xs'))) → r (.ref a) vs H Q
/-- .. of the receiver x, a list that is somebody's own -/
def mutK (o : OM) (x : Kd × D) (es : List (Kd × D)) (q : Nat → List Nat → D → D → Prop) : Prop := match x with
  | (.bor i p (.L .F), .lst ds) => allFz es = true ∧ o ds (es.map (·.2)) fun ds' z => q i p (.lst ds') z
  | _ => False
theorem mutK_of {o : OM} {x : Kd × D} {es : List (Kd × D)} {q : Nat → List Nat → D → D → Prop} (h : mutK o x es q) : ∃ i p ds, x = (.bor i p (.L .F), .lst ds) ∧ allFz es = true ∧ o ds (es.map (·.2)) fun ds' z => q i p (.lst ds') z := by
  unfold mutK at h
  split at h
  · exact ⟨_, _, _, rfl, h⟩
  · exact h.elim
def isL : D → Bool
  | .lst _ => true
  | _ => false
def wMut (o : OM) (wr : DE (Kd × D)) (wa : DE (List (Kd × D))) : DE (Kd × D) := fun ρ P => wr ρ ⟨fun p1 x ρ1 => isL x.2 = true ∧ wa ρ1 ⟨fun p2 es ρ2 => hold x.1 p2 = true ∧ mutK o x es fun i p d' z => P.ok (p1 ++ (p2 ++ [i])) (.fz, z) (setAt ρ2 i p d'), P.ex⟩, P.ex⟩
theorem Has.lstO (ok : T.ok K) {i : Nat} {p : List Nat} {v : V} {ds : List D} (h : Has K S0 T (.bor i p (.L .F)) v (.lst ds)) : ∃ a xs, v = .ref a ∧ T.H a = some (.lst xs) ∧ DtA K T.G xs ds ∧ T.G a = none ∧ Lent K T i p (.L .F) (.ref a) (.lst ds) [a] := by
  obtain ⟨fq, l⟩ := h.lent ok
  have r := l.r
  cases r with
  | L ha t =>
    obtain ⟨t', rfl⟩ := t.F_dt
    exact ⟨_, _, rfl, ha, t', ok.out i _ (l.sub _ List.mem_cons_self), l⟩
/-- a list of one's own gets other items -/
theorem lst_put (ok : T.ok K) {i : Nat} {p : List Nat} {a : Addr} {ds ds' : List D} {xs' : List V} (l : Lent K T i p (.L .F) (.ref a) (.lst ds) [a]) (h' : DtA K T.G xs' ds') :
    ∃ U : Sta, U.ok K ∧ T.to U ∧ Tch [i] T U ∧ U.σ = T.σ ∧ U.H = upd T.H a (.lst xs') ∧ U.ρ = setAt T.ρ i p (.lst ds') ∧ U.G = T.G := by
  obtain ⟨f2, z1, z2, z3⟩ := mut_state (o' := .lst xs') (d' := .lst ds') ok l List.mem_cons_self (.L upd_same (RA.of_dt h')) (by simp) (fun b hb => hb)
  exact ⟨_, z1, z2, z3, rfl, rfl, rfl, rfl⟩
theorem te_mut {r : V → List V → Hp → VK → Prop} {o : OM} {wr : DE (Kd × D)} {wa : DE (List (Kd × D))} {Q : VK} (hr : OkML K r o) (h : te K W (wMut o wr wa) σ H Q) : tBM K "list" r (te K W wr) (ta K W wa) σ H Q := by
  obtain ⟨S, P, rfl, rfl, ok, w, k, ex⟩ := h
  refine ⟨S, _, rfl, rfl, ok, w, fun p1 x S1 w1 e1 ok1 t1 pr1 v1 h1 => ?_, ex⟩
  have hty : tyV K "list" v1 S1.H := by
    obtain ⟨kd, d⟩ := x
    have q := h1.dt ok1
    cases d with
    | lst ds =>
      cases q with
      | lst hl ha => exact .inl ⟨rfl, _, .of hl⟩
    | _ => cases w1.1
  refine ⟨hty, S1, _, e1, rfl, ok1, w1.2, fun p2 es S2 w2 e2 ok2 t2 pr2 vs h2 => ?_, fun C fl T e es okT tT dd hd => ex C fl T e es okT (t1.trans tT) dd hd⟩
  obtain ⟨i, p, ds, rfl, fz, ow⟩ := mutK_of w2.2
  obtain ⟨a, xs, rfl, ha, hx, ga, l⟩ := ((h1.stp ok1 t2 (e2.trans e1.symm) pr2 w2.1).from (Sta.refl S)).lstO ok2
  refine hr S2.G S2.H a xs ds vs _ _ _ ok2.ext ha ga hx (h2.fzs fz) ow fun ds' z qz xs' v hx' hz => ?_
  obtain ⟨U, okU, tU, cU, uσ, uH, uρ, uG⟩ := lst_put ok2 l hx'
  have z9 := k (p1 ++ (p2 ++ [i])) (.fz, z) U (by rw [uρ]; exact qz) (by rw [uσ, e2]) okU ((t1.trans t2).trans tU) (pr1.trans (pr2.trans cU)) v (show Dt K U.G v z by rw [uG]; exact hz)
  rw [uH] at z9
  exact z9
end
end VL

namespace VL
open PySem PySem.Spec PyProof.Rows L2
def optK {α : Type} : Option α → (α → Prop) → Prop
  | some a, q => q a
  | none, _ => False
theorem optK_of {α : Type} {o : Option α} {q : α → Prop} (h : optK o q) : ∃ a, o = some a ∧ q a := by
  cases o with
  | none => exact h.elim
  | some a => exact ⟨a, rfl, h⟩
section
variable {K : PySem.W.Frag} {W : WX} {G G' H H' H0 : Hp} {σ : L2.St} {ρ : Rho} {f f' : Own} {pin : Nat → Option V} {X : Cx} {S S0 S1 T T1 T2 U : Sta} {E : En} {Z : Ends}
/-- nothing new is made -/
theorem stay {Q : VK} {q : Kd × D → Prop} (ok : S.ok K) (k : ∀ z, q z → ∀ (v : V) (G' H' : Hp), Grow S.G S.H G' H' → Has K S (S.at G' H') z.1 v z.2 → Q v H') {z : Kd × D} (qz : q z) {v : V} (h : Has K S S z.1 v z.2) : Q v S.H := k z qz v S.G S.H (Grow.refl ok.ext) h
/-! ### ints -/
def intK (x y : D) (q : Int → Int → Prop) : Prop := match x, y with
  | .int i, .int j => q i j
  | _, _ => False
theorem intK_of {x y : D} {q : Int → Int → Prop} (h : intK x y q) : ∃ i j, x = .int i ∧ y = .int j ∧ q i j := by
  unfold intK at h
  split at h
  · exact ⟨_, _, rfl, rfl, h⟩
  · exact h.elim
def oI (c : Int → Int → Prop) (g : Int → Int → Int) : O2 := fun x y q => intK x.2 y.2 fun i j => c i j ∧ q (.fz, .int (g i j))
def oI0 (g : Int → Int → Int) : O2 := fun x y q => intK x.2 y.2 fun i j => q (.fz, .int (g i j))
def oB0 (g : Int → Int → Bool) : O2 := fun x y q => intK x.2 y.2 fun i j => q (.fz, .bl (g i j))
theorem ok_I {c : Int → Int → Prop} {g : Int → Int → Int} : OkR2 K (rI c fun i j => .int (g i j)) (oI c g) := fun S0 S x y dx dy Q q ok hx hy h k => by
  obtain ⟨kx, dx⟩ := dx
  obtain ⟨ky, dy⟩ := dy
  obtain ⟨i, j, rfl, rfl, hc, qz⟩ := intK_of (h : intK dx dy _)
  exact ⟨i, j, hx.int_inv ok, hy.int_inv ok, hc, stay ok k qz (v := .int (g i j)) (.int _)⟩
theorem ok_I0 {g : Int → Int → Int} : OkR2 K (rI0 fun i j => .int (g i j)) (oI0 g) := fun S0 S x y dx dy Q q ok hx hy h k => by
  obtain ⟨kx, dx⟩ := dx
  obtain ⟨ky, dy⟩ := dy
  obtain ⟨i, j, rfl, rfl, qz⟩ := intK_of (h : intK dx dy _)
  exact ⟨i, j, hx.int_inv ok, hy.int_inv ok, stay ok k qz (v := .int (g i j)) (.int _)⟩
theorem ok_B0 {g : Int → Int → Bool} : OkR2 K (rI0 fun i j => .bl (g i j)) (oB0 g) := fun S0 S x y dx dy Q q ok hx hy h k => by
  obtain ⟨kx, dx⟩ := dx
  obtain ⟨ky, dy⟩ := dy
  obtain ⟨i, j, rfl, rfl, qz⟩ := intK_of (h : intK dx dy _)
  exact ⟨i, j, hx.int_inv ok, hy.int_inv ok, stay ok k qz (v := .bl (g i j)) (.bl _)⟩
theorem OkR2.or {r r' : R2} {o o' : O2} (h : OkR2 K r o) (h' : OkR2 K r' o') : OkR2 K (fun x y H Q => r x y H Q ∨ r' x y H Q) (fun x y q => o x y q ∨ o' x y q) := fun S0 S x y dx dy Q q ok hx hy e k => by
  rcases e with e | e
  · exact .inl (h S0 S x y dx dy Q q ok hx hy e k)
  · exact .inr (h' S0 S x y dx dy Q q ok hx hy e k)
theorem OkR2.sub {r : R2} {o o' : O2} (h : OkR2 K r o) (k : ∀ x y q, o' x y q → o x y q) : OkR2 K r o' := fun S0 S x y dx dy Q q ok hx hy e => h S0 S x y dx dy Q q ok hx hy (k _ _ _ e)
/-! ### == != of flat things -/
def eqK (x y : D) (q : Bool → Prop) : Prop := match x, y with
  | .int a, .int b => q (decide (a = b))
  | .str a, .str b => q (decide (a = b))
  | .bl a, .bl b => q (decide (a = b))
  | .non, .non => q true
  | .non, .int _ => q false
  | .int _, .non => q false
  | .non, .bl _ => q false
  | .bl _, .non => q false
  | .non, .str _ => q false
  | .str _, .non => q false
  | .int _, .str _ => q false
  | .str _, .int _ => q false
  | .bl _, .str _ => q false
  | .str _, .bl _ => q false
  | _, _ => False
def vS : D → V
  | .bl b => .bl b
  | .int i => .int i
  | .str x => .str x
  | _ => .non
theorem Dt.vS {v : V} {d : D} (h : Dt K G v d) (s : scD d = true) : v = vS d := by
  cases h <;> first | rfl | cases s
theorem eqK_of {x y : D} {q : Bool → Prop} (h : eqK x y q) : (scD x = true ∧ scD y = true) ∧ scal (vS x) (vS y) = true ∧ q (decide (vS x = vS y)) := by
  cases x <;> cases y <;> simp only [eqK] at h <;> first
    | exact h.elim
    | (refine ⟨⟨rfl, rfl⟩, rfl, ?_⟩; simpa [vS] using h)
def oEq : O2 := fun x y q => eqK x.2 y.2 fun b => q (.fz, .bl b)
def oNe : O2 := fun x y q => eqK x.2 y.2 fun b => q (.fz, .bl (!b))
theorem ok_Eq : OkR2 K rEq oEq := fun S0 S x y dx dy Q q ok hx hy h k => by
  obtain ⟨⟨s1, s2⟩, s3, qz⟩ := eqK_of (h : eqK dx.2 dy.2 _)
  rw [(hx.dt ok).vS s1, (hy.dt ok).vS s2]
  exact ⟨s3, stay ok k qz (v := .bl _) (.bl _)⟩
theorem ok_Ne : OkR2 K rNe oNe := fun S0 S x y dx dy Q q ok hx hy h k => by
  obtain ⟨⟨s1, s2⟩, s3, qz⟩ := eqK_of (h : eqK dx.2 dy.2 _)
  rw [(hx.dt ok).vS s1, (hy.dt ok).vS s2]
  exact ⟨s3, stay ok k qz (v := .bl _) (.bl _)⟩
/-! ### is None -/
def isN : D → Bool
  | .non => true
  | _ => false
theorem dt_isN {v : V} {d : D} (h : Dt K G v d) : decide (v = .non) = isN d := by cases h <;> rfl
def oIsN : O2 := fun x y q => isN y.2 = true ∧ q (.fz, .bl (isN x.2))
def oNotN : O2 := fun x y q => isN y.2 = true ∧ q (.fz, .bl (!isN x.2))
theorem Dt.non_of {v : V} {d : D} (h : Dt K G v d) (s : isN d = true) : v = .non := by cases h <;> first | rfl | cases s
theorem ok_IsN : OkR2 K (fun x y H Q => y = .non ∧ Q (.bl (decide (x = .non))) H) oIsN := fun S0 S x y dx dy Q q ok hx hy h k => by
  refine ⟨(hy.dt ok).non_of h.1, ?_⟩
  rw [dt_isN (hx.dt ok)]
  exact stay ok k h.2 (v := .bl _) (.bl _)
/-! ### texts, tuples, lists joined -/
def oCatS : O2 := fun x y q => match x.2, y.2 with
  | .str a, .str b => small (a.length + b.length) = true ∧ q (.fz, .str (a ++ b))
  | _, _ => False
/-! ### keys -/
def keyOf : D → Option Key
  | .int i => some (.inl i)
  | .str x => some (.inr x)
  | _ => none
theorem Dt.key {v : V} {d : D} {k : Key} (h : Dt K G v d) (e : keyOf d = some k) : v = kV k := by
  cases h <;> simp only [keyOf] at e <;> cases e <;> rfl
def kD : Key → D
  | .inl i => .int i
  | .inr x => .str x
theorem Dt.kV (k : Key) : Dt K G (kV k) (kD k) := by
  cases k with
  | inl i => exact .int i
  | inr x => exact .str x
def valD (kvs : List (Key × D)) (k : Key) : Option D := (kvs.find? fun kv => decide (kv.1 = k)).map (·.2)
def putKD (kvs : List (Key × D)) (k : Key) (v : D) : List (Key × D) :=
  if (kvs.any fun kv => decide (kv.1 = k)) = true then kvs.map (fun kv => if kv.1 = k then (kv.1, v) else kv) else kvs ++ [(k, v)]
def dropKD (kvs : List (Key × D)) (k : Key) : List (Key × D) := kvs.filter fun kv => decide (kv.1 ≠ k)
theorem DtK.len : ∀ {vs : List (Key × V)} {ds : List (Key × D)}, DtK K G vs ds → vs.length = ds.length
  | _, _, .nil => rfl
  | _, _, .cons h t => by simp [DtK.len t]
theorem DtK.any {k : Key} : ∀ {vs : List (Key × V)} {ds : List (Key × D)}, DtK K G vs ds → (vs.any fun kv => decide (kv.1 = k)) = ds.any fun kv => decide (kv.1 = k)
  | _, _, .nil => rfl
  | _, _, .cons h t => by simp [DtK.any t]
theorem DtK.map {k : Key} {v : V} {d : D} (hv : Dt K G v d) : ∀ {vs : List (Key × V)} {ds : List (Key × D)}, DtK K G vs ds → DtK K G (vs.map fun kv => if kv.1 = k then (kv.1, v) else kv) (ds.map fun kv => if kv.1 = k then (kv.1, d) else kv)
  | _, _, .nil => .nil
  | _, _, .cons (k := k') h t => by
    simp only [List.map_cons]
    by_cases c : k' = k
    · simp only [if_pos c]; exact .cons hv (DtK.map hv t)
    · simp only [if_neg c]; exact .cons h (DtK.map hv t)
theorem DtK.append : ∀ {vs ws : List (Key × V)} {ds es : List (Key × D)}, DtK K G vs ds → DtK K G ws es → DtK K G (vs ++ ws) (ds ++ es)
  | _, _, _, _, .nil, h => h
  | _, _, _, _, .cons h t, h' => .cons h (DtK.append t h')
theorem DtK.put {vs : List (Key × V)} {ds : List (Key × D)} {k : Key} {v : V} {d : D} (h : DtK K G vs ds) (hv : Dt K G v d) : DtK K G (L2.putK vs k v) (putKD ds k d) := by
  unfold L2.putK putKD
  rw [h.any]
  split
  · exact h.map hv
  · exact h.append (.cons hv .nil)
theorem DtK.drop {k : Key} : ∀ {vs : List (Key × V)} {ds : List (Key × D)}, DtK K G vs ds → DtK K G (dropK vs k) (dropKD ds k)
  | _, _, .nil => .nil
  | _, _, .cons (k := k') h t => by
    have ih := DtK.drop (k := k) t
    unfold dropK dropKD at *
    by_cases c : k' = k
    · simpa [List.filter_cons, c] using ih
    · simp only [List.filter_cons, c, ne_eq, not_false_eq_true, decide_true, if_true]
      exact .cons h ih
theorem DtK.val {k : Key} : ∀ {vs : List (Key × V)} {ds : List (Key × D)}, DtK K G vs ds → (valD ds k = none ∧ valV vs k = none) ∨ ∃ v d, valD ds k = some d ∧ valV vs k = some v ∧ Dt K G v d
  | _, _, .nil => .inl ⟨rfl, rfl⟩
  | _, _, .cons (k := k') h t => by
    by_cases c : k' = k
    · refine .inr ⟨_, _, ?_, ?_, h⟩
      · simp [valD, List.find?_cons, c]
      · exact valV_pos c
    · rcases DtK.val (k := k) t with ⟨e1, e2⟩ | ⟨v, d, e1, e2, hd⟩
      · exact .inl ⟨by simpa [valD, List.find?_cons, c] using e1, by rw [valV_neg c]; exact e2⟩
      · exact .inr ⟨v, d, by simpa [valD, List.find?_cons, c] using e1, by rw [valV_neg c]; exact e2, hd⟩
/-- the dict of a value: frozen or somebody's own -/
def dctK (x : Kd × D) (q : List (Key × D) → Prop) : Prop := match x with
  | (.fz, .dct ds) => q ds
  | (.bor _ _ .K, .dct ds) => q ds
  | (.new .K, .dct ds) => q ds
  | _ => False
theorem Has.dctR (ok : S.ok K) {x : Kd × D} {v : V} {q : List (Key × D) → Prop} (h : Has K S0 S x.1 v x.2) (e : dctK x q) : ∃ a kvs ds, v = .ref a ∧ Rd S.H a (.dK kvs) ∧ DtK K S.G kvs ds ∧ q ds := by
  unfold dctK at e
  split at e
  · cases h with
    | dct hG hk => exact ⟨_, _, _, rfl, ok.ext.rd hG, hk, e⟩
  · obtain ⟨fq, r, _⟩ := h.bor_R ok
    cases r with
    | K hG hk => exact ⟨_, _, _, rfl, .inl hG, hk, e⟩
  · obtain ⟨fq, r, _⟩ := h
    cases r with
    | K hG hk => exact ⟨_, _, _, rfl, .inl hG, hk, e⟩
  · exact e.elim
/-! ### x in .. -/
def rDIn (neg : Bool) : R2 := fun y x H Q => ∃ a o, x = .ref a ∧ DGet H a y o ∧ Q (.bl (if neg then !o.isSome else o.isSome)) H
theorem op_dnotin (hu : X.A.units + 1 < cLine) : OpR X (compareOp .NotIn) (rDIn true) := by
  intro pins s σ H x y v u Q I rx ry h
  obtain ⟨a, ov, rfl, g, q⟩ := h
  obtain rfl : u = Value.ref a := ry
  exact d_notIn hu I g rx fun s3 I3 => ⟨.bl (!ov.isSome), H, I3, rfl, q⟩
def eqvD : D → D → Bool
  | .non, .non => true
  | .bl a, .bl b => a == b
  | .bl a, .int b => (if a then 1 else 0) == b
  | .int a, .bl b => a == (if b then 1 else 0)
  | .int a, .int b => a == b
  | .str a, .str b => a == b
  | _, _ => false
/-- flat x among flat things -/
def seqInK (x : D) (y : Kd × D) (q : Bool → Prop) : Prop := match y.2 with
  | .lst ds => (scD x = true ∧ ds.all scD = true) ∧ q (ds.any fun z => eqvD z x)
  | .tup ds => (scD x = true ∧ ds.all scD = true) ∧ q (ds.any fun z => eqvD z x)
  | .dct _ => optK (keyOf x) fun k => dctK y fun ds => q (valD ds k).isSome
  | _ => False
def oIn : O2 := fun x y q => seqInK x.2 y fun b => q (.fz, .bl b)
def oNotIn : O2 := fun x y q => seqInK x.2 y fun b => q (.fz, .bl (!b))
theorem flatV_vS (d : D) : flatV (vS d) = true := by cases d <;> rfl
theorem eqV_vS {a b : D} (h : scD a = true) (h' : scD b = true) : eqV (vS a) (vS b) = eqvD a b := by
  cases a <;> cases b <;> first
    | rfl
    | (cases h'; done)
    | (cases h; done)
theorem DtA.flat : ∀ {vs : List V} {ds : List D}, DtA K G vs ds → ds.all scD = true → vs.all flatV = true ∧ ∀ (x : D), scD x = true → inV (vS x) vs = ds.any fun z => eqvD z x
  | _, _, .nil, _ => ⟨rfl, fun _ _ => rfl⟩
  | _, _, .cons h t, e => by
    simp only [List.all_cons, Bool.and_eq_true] at e
    obtain ⟨h1, h2⟩ := DtA.flat t e.2
    have hv := h.vS e.1
    subst hv
    refine ⟨by simp [flatV_vS, h1], fun x hx => ?_⟩
    show List.any _ _ = _
    rw [List.any_cons, List.any_cons, eqV_vS e.1 hx]
    exact congrArg _ (h2 x hx)
theorem seqInK_of {x : Kd × D} {y : Kd × D} {q : Bool → Prop} {vx vy : V} (ok : S.ok K) (hx : Has K S0 S x.1 vx x.2) (hy : Has K S0 S y.1 vy y.2) (h : seqInK x.2 y q) : ∃ b, q b ∧
    ((∃ p xs, vy = .ref p ∧ (SqL K S.H p xs ∨ SqT K S.H p xs) ∧ flatV vx = true ∧ xs.all flatV = true ∧ inV vx xs = b) ∨ ∃ a o, vy = .ref a ∧ DGet S.H a vx o ∧ o.isSome = b) := by
  unfold seqInK at h
  split at h
  · rename_i ds e
    obtain ⟨kd, d⟩ := y
    subst e
    have hd := hy.dt ok
    have vx1 := (hx.dt ok).vS h.1.1
    subst vx1
    cases hd with
    | lst hl ha =>
      obtain ⟨h1, h2⟩ := ha.flat h.1.2
      exact ⟨_, h.2, .inl ⟨_, _, rfl, .inl (.of hl), flatV_vS _, h1, h2 _ h.1.1⟩⟩
  · rename_i ds e
    obtain ⟨kd, d⟩ := y
    subst e
    have hd := hy.dt ok
    have vx1 := (hx.dt ok).vS h.1.1
    subst vx1
    cases hd with
    | tup hl ha =>
      obtain ⟨h1, h2⟩ := ha.flat h.1.2
      exact ⟨_, h.2, .inl ⟨_, _, rfl, .inr hl, flatV_vS _, h1, h2 _ h.1.1⟩⟩
  · obtain ⟨k, ek, e⟩ := optK_of h
    obtain ⟨a, kvs, ds, rfl, hG, hk, qb⟩ := hy.dctR ok e
    have vx1 := (hx.dt ok).key ek
    subst vx1
    refine ⟨_, qb, .inr ⟨a, _, rfl, .inl ⟨_, _, hG, rfl, rfl⟩, ?_⟩⟩
    rcases hk.val (k := k) with ⟨e1, e2⟩ | ⟨v, d, e1, e2, _⟩
    · rw [e1, e2]; rfl
    · rw [e1, e2]; rfl
  · exact h.elim
theorem ok_NotIn : OkR2 K (fun x y H Q => rIn K true x y H Q ∨ rDIn true x y H Q) oNotIn := fun S0 S x y dx dy Q q ok hx hy h k => by
  obtain ⟨b, qb, ⟨p, xs, rfl, h1, h2, h3, h4⟩ | ⟨a, o, rfl, h1, h2⟩⟩ := seqInK_of ok hx hy (h : seqInK dx.2 dy _)
  · refine .inl ⟨p, xs, rfl, h1, h2, h3, ?_⟩
    show Q (.bl (!inV x xs)) _
    rw [h4]
    exact stay ok k qb (v := .bl _) (.bl _)
  · refine .inr ⟨a, o, rfl, h1, ?_⟩
    show Q (.bl (!o.isSome)) _
    rw [h2]
    exact stay ok k qb (v := .bl _) (.bl _)
/-! ### subscripts -/
def rIxDK : R2 := fun x y H Q => ∃ a v, x = .ref a ∧ DGet H a y (some v) ∧ Q v H
theorem ix_dict (hu : X.A.units + 1 < cLine) : IxR X rIxDK := by
  intro value slice pins s σ H x y v u Q I rx ry h hs
  obtain ⟨a, z, rfl, g, q⟩ := h
  obtain rfl : v = Value.ref a := rx
  exact tail_any (dict_typeIs I g) slot_dict_getitem.lookup (d_getItem hu I g ry fun w' s' I' rw' => ⟨z, H, I', rw', q⟩) hs
def ixKd (k : Nat) (p : List Nat) (m : Md) (j : Nat) : Kd := kAt k (p ++ [j]) m
def oIx : O2 := fun x y q => match x, y.2 with
  | (.fz, .lst ds), .int i => optK (atI ds i) fun d => q (.fz, d)
  | (.new (.L .F), .lst ds), .int i => optK (atI ds i) fun d => q (.fz, d)
  | (.bor k p (.L m), .lst ds), .int i => optK (ixN ds.length i) fun j => optK ds[j]? fun d => q (kAt k (p ++ [j]) m, d)
  | (.fz, .tup ds), .int i => optK (atI ds i) fun d => q (.fz, d)
  | (.bor k p (.T ms), .tup ds), .int i => optK (ixN ds.length i) fun j => optK ms[j]? fun m => optK ds[j]? fun d => q (kAt k (p ++ [j]) m, d)
  | (_, .str z), .int i => small z.length = true ∧ optK (atI z.cps.toList i) fun c => q (.fz, .str ⟨#[c]⟩)
  | (_, .scr ns), .int i => optK (atI ns i) fun n => q (.fz, .int n)
  | (kd, .dct es), y => optK (keyOf y) fun k => dctK (kd, .dct es) fun ds => optK (valD ds k) fun d => q (.fz, d)
  | _, _ => False
theorem DtA.atI {vs : List V} {ds : List D} {i : Int} {d : D} (h : DtA K G vs ds) (e : L2.atI ds i = some d) : ∃ v, L2.atI vs i = some v ∧ Dt K G v d := by
  unfold L2.atI at e ⊢
  rw [h.len]
  cases c : ixN ds.length i with
  | none => rw [c] at e; cases e
  | some j =>
    rw [c] at e
    exact h.get e
theorem RA.len {m : Md} : ∀ {vs : List V} {ds : List D} {fp : List Addr}, RA K G H m vs ds fp → vs.length = ds.length
  | _, _, _, .nil => rfl
  | _, _, _, .cons h t => by simp [RA.len t]
theorem Rch.snoc_lst : ∀ {H : Hp} {v0 v x : V} {p : List Nat} {a : Addr} {xs : List V} {j : Nat}, Rch H v0 p v → v = .ref a → H a = some (.lst xs) → xs[j]? = some x → Rch H v0 (p ++ [j]) x
  | _, _, _, _, _, _, _, _, .here, e, h, i => by subst e; exact .lst h i .here
  | _, _, _, _, _, _, _, _, .lst h1 i1 t, e, h, i => .lst h1 i1 (Rch.snoc_lst t e h i)
  | _, _, _, _, _, _, _, _, .ins h1 i1 t, e, h, i => .ins h1 i1 (Rch.snoc_lst t e h i)
  | _, _, _, _, _, _, _, _, .tup h1 i1 t, e, h, i => .tup h1 i1 (Rch.snoc_lst t e h i)
  | _, _, _, _, _, _, _, _, .dK h1 i1 t, e, h, i => .dK h1 i1 (Rch.snoc_lst t e h i)
theorem RS.len : ∀ {ms : List Md} {vs : List V} {ds : List D} {fp : List Addr}, RS K G H ms vs ds fp → vs.length = ds.length
  | _, _, _, _, .nil => rfl
  | _, _, _, _, .cons h t => by simp [RS.len t]
theorem Rch.snoc_tup : ∀ {H : Hp} {v0 v x : V} {p : List Nat} {a : Addr} {xs : List V} {j : Nat}, Rch H v0 p v → v = .ref a → H a = some (.tup xs) → xs[j]? = some x → Rch H v0 (p ++ [j]) x
  | _, _, _, _, _, _, _, _, .here, e, h, i => by subst e; exact .tup h i .here
  | _, _, _, _, _, _, _, _, .lst h1 i1 t, e, h, i => .lst h1 i1 (Rch.snoc_tup t e h i)
  | _, _, _, _, _, _, _, _, .ins h1 i1 t, e, h, i => .ins h1 i1 (Rch.snoc_tup t e h i)
  | _, _, _, _, _, _, _, _, .tup h1 i1 t, e, h, i => .tup h1 i1 (Rch.snoc_tup t e h i)
  | _, _, _, _, _, _, _, _, .dK h1 i1 t, e, h, i => .dK h1 i1 (Rch.snoc_tup t e h i)
theorem atI_map {α β : Type} {g : α → β} {xs : List α} {i : Int} {a : α} (h : L2.atI xs i = some a) : L2.atI (xs.map g) i = some (g a) := by
  unfold L2.atI at h ⊢
  rw [List.length_map]
  cases c : ixN xs.length i with
  | none => rw [c] at h; cases h
  | some j =>
    rw [c] at h
    have h' : xs[j]? = some a := h
    show (xs.map g)[j]? = _
    rw [List.getElem?_map, h']
    rfl
theorem ok_Ix : OkR2 K (fun x y H Q => rIx K x y H Q ∨ rIxDK x y H Q) oIx := fun S0 S x y dx dy Q q ok hx hy h k => by
  obtain ⟨ky, dy⟩ := dy
  unfold oIx at h
  split at h
  · rename_i ds i e2
    cases e2
    have hy' := hy.int_inv ok
    subst hy'
    obtain ⟨d, ed, qd⟩ := optK_of h
    cases hx with
    | lst hl ha =>
      obtain ⟨v, ev, hv⟩ := ha.atI ed
      exact .inl (.inl ⟨_, _, i, v, rfl, rfl, L2.SqL.of (ok.ext _ _ hl), ev, stay ok k qd hv⟩)
  · rename_i ds i e2
    cases e2
    have hy' := hy.int_inv ok
    subst hy'
    obtain ⟨d, ed, qd⟩ := optK_of h
    obtain ⟨fp, r, _⟩ := hx
    cases r with
    | L hG ra =>
      obtain ⟨ha, _⟩ := ra.F_dt
      obtain ⟨v, ev, hv⟩ := ha.atI ed
      exact .inl (.inl ⟨_, _, i, v, rfl, rfl, .of hG, ev, stay ok k qd hv⟩)
  · rename_i b p m ds i e2
    cases e2
    have hy' := hy.int_inv ok
    subst hy'
    obtain ⟨j, ej, h⟩ := optK_of h
    obtain ⟨d, ed, qd⟩ := optK_of h
    obtain ⟨fq, r, _⟩ := hx.bor_R ok
    cases r with
    | @L _ a xs _ fp hG ra =>
      have hlt := (List.getElem?_eq_some_iff.mp ed).1
      have hxj : xs[j]? = some (xs[j]'(by rw [ra.len]; exact hlt)) := List.getElem?_eq_getElem _
      refine .inl (.inl ⟨a, xs, i, _, rfl, rfl, .of hG, ?_, stay ok k qd (v := xs[j]'(by rw [ra.len]; exact hlt)) ?_⟩)
      · show ((ixN xs.length i).bind fun j => xs[j]?) = _
        have e9 : ixN xs.length i = some j := by rw [ra.len]; exact ej
        rw [e9]
        exact hxj
      · obtain ⟨m0, d0, v0, h1, h2, h3, h4, h5⟩ := hx
        exact Has.of_at ok h1 h2 (Rch.snoc_lst h3 rfl hG hxj) (mAt_snoc h4 rfl) (dAt_snoc h5 ed)
  · rename_i ds i e2
    cases e2
    have hy' := hy.int_inv ok
    subst hy'
    obtain ⟨d, ed, qd⟩ := optK_of h
    cases hx with
    | tup hl ha =>
      obtain ⟨v, ev, hv⟩ := ha.atI ed
      exact .inl (.inr (.inl ⟨_, _, i, v, rfl, rfl, ok.ext.t hl, ev, stay ok k qd hv⟩))
  · rename_i b p ms ds i e2
    cases e2
    have hy' := hy.int_inv ok
    subst hy'
    obtain ⟨j, ej, h⟩ := optK_of h
    obtain ⟨m, em, h⟩ := optK_of h
    obtain ⟨d, ed, qd⟩ := optK_of h
    obtain ⟨fq, r, _⟩ := hx.bor_R ok
    cases r with
    | @T _ a xs _ fp hG0 ra =>
      have hG := ok.ext _ _ hG0
      have hlt := (List.getElem?_eq_some_iff.mp ed).1
      have hxj : xs[j]? = some (xs[j]'(by rw [ra.len]; exact hlt)) := List.getElem?_eq_getElem _
      refine .inl (.inr (.inl ⟨a, xs, i, _, rfl, rfl, .inl (.inl hG), ?_, stay ok k qd (v := xs[j]'(by rw [ra.len]; exact hlt)) ?_⟩))
      · show ((ixN xs.length i).bind fun j => xs[j]?) = _
        have e9 : ixN xs.length i = some j := by rw [ra.len]; exact ej
        rw [e9]
        exact hxj
      · obtain ⟨m0, d0, v0, h1, h2, h3, h4, h5⟩ := hx
        exact Has.of_at ok h1 h2 (Rch.snoc_tup h3 rfl hG hxj) (mAt_snoc h4 em) (dAt_snoc h5 ed)
  · rename_i kd z i e2
    cases e2
    have hy' := hy.int_inv ok
    subst hy'
    have hx' := hx.str_inv ok
    subst hx'
    obtain ⟨c, ec, qd⟩ := optK_of h.2
    exact .inl (.inr (.inr ⟨z, i, c, rfl, rfl, small_sz h.1, ec, stay ok k qd (v := .str _) (.str _)⟩))
  · rename_i kd ns i e2
    cases e2
    have hy' := hy.int_inv ok
    subst hy'
    obtain ⟨n, en, qn⟩ := optK_of h
    have hd := hx.dt ok
    cases hd with
    | scr hl => exact .inl (.inl ⟨_, _, i, .int n, rfl, rfl, hl, atI_map en, stay ok k qn (v := .int _) (.int _)⟩)
  · rename_i kd es
    obtain ⟨key, ek, h⟩ := optK_of h
    obtain ⟨a, kvs, ds, rfl, hG, hk, h⟩ := Has.dctR ok (x := (kd, .dct es)) hx h
    obtain ⟨d, ed, qd⟩ := optK_of h
    have hyv := (hy.dt ok).key ek
    subst hyv
    rcases hk.val (k := key) with ⟨e1, e2⟩ | ⟨v, d', e1, e2, hd⟩
    · rw [e1] at ed; cases ed
    · rw [e1] at ed; cases ed
      exact .inr ⟨a, v, rfl, .inl ⟨_, _, hG, rfl, e2.symm⟩, stay ok k qd hd⟩
  · exact h.elim
end
end VL

namespace VL
open PySem PySem.Spec PyProof.Rows L2
section
variable {K : PySem.W.Frag} {W : WX} {G G' H H' H0 : Hp} {σ : L2.St} {ρ : Rho} {f f' : Own} {pin : Nat → Option V} {X : Cx} {S S0 S1 T T1 T2 U : Sta} {E : En} {Z : Ends}
/-! ### new things -/
theorem new_lst {Q : VK} {q : Kd × D → Prop} (ok : S.ok K) (k : ∀ z, q z → ∀ (v : V) (G' H' : Hp), Grow S.G S.H G' H' → Has K S (S.at G' H') z.1 v z.2 → Q v H') {xs : List V} {ds : List D} (qz : q (.new (.L .F), .lst ds)) (h : DtA K S.G xs ds) {p : Addr} (hp : S.H p = none) : Q (.ref p) (upd S.H p (.lst xs)) :=
  k _ qz _ S.G _ (Grow.own ok.ext hp) (Has.lst_new ok h hp hp)
theorem new_tup {Q : VK} {q : Kd × D → Prop} (ok : S.ok K) (k : ∀ z, q z → ∀ (v : V) (G' H' : Hp), Grow S.G S.H G' H' → Has K S (S.at G' H') z.1 v z.2 → Q v H') {xs : List V} {ds : List D} (qz : q (.fz, .tup ds)) (h : DtA K S.G xs ds) {p : Addr} (hp : S.H p = none) : Q (.ref p) (upd S.H p (.tup xs)) :=
  k _ qz _ _ _ (Grow.new ok.ext hp) (Dt.tup_new h (ok.ext.free hp))
/-- the items of a list: frozen or somebody's own -/
def lstK (x : Kd × D) (q : List D → Prop) : Prop := match x with
  | (.fz, .lst ds) => q ds
  | (.bor _ _ (.L .F), .lst ds) => q ds
  | (.new (.L .F), .lst ds) => q ds
  | _ => False
theorem Has.lstR (ok : S.ok K) {x : Kd × D} {v : V} {q : List D → Prop} (h : Has K S0 S x.1 v x.2) (e : lstK x q) : ∃ a xs ds, v = .ref a ∧ S.H a = some (.lst xs) ∧ DtA K S.G xs ds ∧ q ds := by
  unfold lstK at e
  split at e
  · cases h with
    | lst hG hk => exact ⟨_, _, _, rfl, ok.ext _ _ hG, hk, e⟩
  · obtain ⟨fq, r, _⟩ := h.bor_R ok
    cases r with
    | L hG hk => exact ⟨_, _, _, rfl, hG, hk.F_dt.1, e⟩
  · obtain ⟨fq, r, _⟩ := h
    cases r with
    | L hG hk => exact ⟨_, _, _, rfl, hG, hk.F_dt.1, e⟩
  · exact e.elim
/-- .. of a list or a tuple -/
def itmK (x : Kd × D) (q : List D → Prop) : Prop := match x with
  | (.fz, .tup ds) => q ds
  | x => lstK x q
theorem Has.itmR (ok : S.ok K) {x : Kd × D} {v : V} {q : List D → Prop} (h : Has K S0 S x.1 v x.2) (e : itmK x q) : ∃ a xs ds, v = .ref a ∧ (SqL K S.H a xs ∨ SqT K S.H a xs) ∧ DtA K S.G xs ds ∧ q ds := by
  unfold itmK at e
  split at e
  · cases h with
    | tup hG hk => exact ⟨_, _, _, rfl, .inr (ok.ext.t hG), hk, e⟩
  · obtain ⟨a, xs, ds, e1, e2, e3, e4⟩ := h.lstR ok e
    exact ⟨a, xs, ds, e1, .inl (.of e2), e3, e4⟩
/-! ### + -/
def oAdd : O2 := fun x y q => match x.2, y.2 with
  | .int a, .int b => q (.fz, .int (a + b))
  | .str a, .str b => small (a.length + b.length) = true ∧ q (.fz, .str (a ++ b))
  | .tup _, .tup _ => itmK x fun a => itmK y fun b => small (a.length + b.length) = true ∧ q (.fz, .tup (a ++ b))
  | .lst _, .lst _ => lstK x fun a => lstK y fun b => small (a.length + b.length) = true ∧ q (.new (.L .F), .lst (a ++ b))
  | _, _ => False
def rAddU (K : PySem.W.Frag) : R2 := fun x y H Q => rI0 (fun i j => .int (i + j)) x y H Q ∨ (∃ i j, x = .str i ∧ y = .str j ∧ i.length + j.length ≤ sizeLine ∧ Q (.str (i ++ j)) H) ∨ rCatA K x y H Q ∨ rCat x y H Q
theorem op_addU : OpR X (binaryOp .Add) (rAddU X.K) := op_add.or (op_add_str.or (op_catA.or op_cat))
theorem tupR (ok : S.ok K) {k : Kd} {l : List D} {v : V} {q : List D → Prop} (h : Has K S0 S k v (.tup l)) (e : itmK (k, .tup l) q) : ∃ a xs ds, v = .ref a ∧ SqT K S.H a xs ∧ Dt K S.G v (.tup ds) ∧ DtA K S.G xs ds ∧ q ds := by
  cases k with
  | fz =>
    cases h with
    | tup hG hk => exact ⟨_, _, _, rfl, ok.ext.t hG, .tup hG hk, hk, e⟩
  | bor i p m => exact (show False by simpa [itmK, lstK] using e).elim
  | new m => exact (show False by simpa [itmK, lstK] using e).elim
theorem ok_Add : OkR2 K (rAddU K) oAdd := fun S0 S x y dx dy Q q ok hx hy h k => by
  obtain ⟨kx, dx⟩ := dx
  obtain ⟨ky, dy⟩ := dy
  unfold oAdd at h
  split at h
  · rename_i a b e1 e2
    cases e1; cases e2
    exact .inl ⟨a, b, hx.int_inv ok, hy.int_inv ok, stay ok k h (v := .int _) (.int _)⟩
  · rename_i a b e1 e2
    cases e1; cases e2
    exact .inr (.inl ⟨a, b, hx.str_inv ok, hy.str_inv ok, small_sz h.1, stay ok k h.2 (v := .str _) (.str _)⟩)
  · rename_i a b e1 e2
    cases e1; cases e2
    obtain ⟨p, xs, ds, rfl, h1, dx, h2, h⟩ := tupR ok hx h
    obtain ⟨p', xs', ds', rfl, h1', dy, h2', h⟩ := tupR ok hy h
    refine .inr (.inr (.inl ⟨p, p', xs, xs', rfl, rfl, h1, h1', by rw [h2.len, h2'.len]; exact small_sz h.1, fun e => ?_, fun _ e => ?_, fun _ _ p hp => new_tup ok k h.2 (h2.append h2') hp⟩))
    · subst e
      cases h2
      exact stay ok k h.2 (v := .ref p') dy
    · subst e
      cases h2'
      have := h.2
      rw [List.append_nil] at this
      exact stay ok k this (v := .ref p) dx
  · rename_i a b e1 e2
    cases e1; cases e2
    obtain ⟨p, xs, ds, rfl, h1, h2, h⟩ := Has.lstR ok (x := (kx, _)) hx h
    obtain ⟨p', xs', ds', rfl, h1', h2', h⟩ := Has.lstR ok (x := (ky, _)) hy h
    exact .inr (.inr (.inr ⟨p, p', xs, xs', rfl, rfl, h1, h1', by rw [h2.len, h2'.len]; exact small_sz h.1, fun p hp => new_lst ok k h.2 (h2.append h2') hp⟩))
  · exact h.elim
/-- int, or list by int -/
def oMul : O2 := fun x y q => match x.2, y.2 with
  | .int a, .int b => CMul a b ∧ q (.fz, .int (a * b))
  | .lst _, .int n => lstK x fun ds => (0 ≤ n ∧ small (ds.length * n.toNat) = true ∧ n < 2 ^ 63) ∧ q (.new (.L .F), .lst (List.replicate n.toNat ds).flatten)
  | _, _ => False
theorem op_mulU : OpR X (binaryOp .Mult) (fun x y H Q => rI CMul (fun i j => .int (i * j)) x y H Q ∨ rRep x y H Q) := op_mul.or op_rep
theorem ok_Mul : OkR2 K (fun x y H Q => rI CMul (fun i j => .int (i * j)) x y H Q ∨ rRep x y H Q) oMul := fun S0 S x y dx dy Q q ok hx hy h k => by
  obtain ⟨kx, dx⟩ := dx
  obtain ⟨ky, dy⟩ := dy
  unfold oMul at h
  split at h
  · rename_i a b e1 e2
    cases e1; cases e2
    exact .inl ⟨a, b, hx.int_inv ok, hy.int_inv ok, h.1, stay ok k h.2 (v := .int _) (.int _)⟩
  · rename_i a n e1 e2
    cases e1; cases e2
    obtain ⟨p, xs, ds, rfl, h1, h2, h⟩ := Has.lstR ok (x := (kx, _)) hx h
    refine .inr ⟨p, n, xs, rfl, hy.int_inv ok, h1, by omega, h.1.2.2, by rw [h2.len]; exact small_sz h.1.2.1, fun p hp => new_lst ok k h.2 (h2.rep _) hp⟩
  · exact h.elim
/-! ### slices -/
def cutD (xs : List D) (lo hi : Option Int) : List D := (xs.drop (HT.sIx xs.length 0 lo)).take (HT.sIx xs.length xs.length hi - HT.sIx xs.length 0 lo)
abbrev OS := Kd × D → Option Int → Option Int → (Kd × D → Prop) → Prop
def oSl : OS := fun x lo hi q => match x.2 with
  | .lst _ => lstK x fun ds => q (.new (.L .F), .lst (cutD ds lo hi))
  | .tup _ => itmK x fun ds => q (.fz, .tup (cutD ds lo hi))
  | .str z => small z.length = true ∧ q (.fz, .str (cutS z lo hi))
  | .scr ns => q (.new (.L .F), .lst (cutD (ns.map .int) lo hi))
  | _ => False
def rSlU (K : PySem.W.Frag) : V → Option Int → Option Int → Hp → VK → Prop := fun x lo hi H Q => rSlL K x lo hi H Q ∨ rSlA K x lo hi H Q ∨ rSlS x lo hi H Q
theorem sl_any : SlR X (rSlU X.K) := sl_list.or (sl_tupA.or sl_str)
theorem DtA.cut {vs : List V} {ds : List D} (h : DtA K G vs ds) (lo hi : Option Int) : DtA K G (cutV vs lo hi) (cutD ds lo hi) := by
  unfold cutV cutD
  rw [h.len]
  exact (h.drop _).take _
theorem DtA.ints : ∀ ns : List Int, DtA K G (ns.map V.int) (ns.map D.int)
  | [] => .nil
  | n :: ns => .cons (.int n) (DtA.ints ns)
theorem cut_all {ds : List D} {lo hi : Option Int} (h : HT.sIx ds.length 0 lo = 0 ∧ HT.sIx ds.length ds.length hi = ds.length) : cutD ds lo hi = ds := by
  unfold cutD
  rw [h.1, h.2]
  simp
theorem ok_Sl {x : V} {dx : Kd × D} {lo hi : Option Int} {Q : VK} {q : Kd × D → Prop} (ok : S.ok K) (hx : Has K S0 S dx.1 x dx.2) (h : oSl dx lo hi q) (k : ∀ z, q z → ∀ (v : V) (G' H' : Hp), Grow S.G S.H G' H' → Has K S (S.at G' H') z.1 v z.2 → Q v H') : rSlU K x lo hi S.H Q := by
  obtain ⟨kx, dx⟩ := dx
  unfold oSl at h
  split at h
  · rename_i l e1
    cases e1
    obtain ⟨p, xs, ds, rfl, h1, h2, h⟩ := Has.lstR ok (x := (kx, _)) hx h
    exact .inl ⟨p, xs, rfl, .of h1, fun p hp => new_lst ok k h (h2.cut lo hi) hp⟩
  · rename_i l e1
    cases e1
    obtain ⟨p, xs, ds, rfl, h1, dx, h2, h⟩ := tupR ok hx h
    refine .inr (.inl ⟨p, xs, rfl, h1, fun e => ?_, fun _ p hp => new_tup ok k h (h2.cut lo hi) hp⟩)
    rw [h2.len] at e
    rw [cut_all e] at h
    exact stay ok k h (v := .ref p) dx
  · rename_i z e1
    cases e1
    exact .inr (.inr ⟨z, hx.str_inv ok, small_sz h.1, stay ok k h.2 (v := .str _) (.str _)⟩)
  · rename_i ns e1
    cases e1
    have hd := hx.dt ok
    cases hd with
    | scr hl => exact .inl ⟨_, _, rfl, hl, fun p hp => new_lst ok k h ((DtA.ints ns).cut lo hi) hp⟩
  · exact h.elim
def wNo : DE (Option Int) := fun ρ P => P.ok [] none ρ
def wSo (we : DE (Kd × D)) : DE (Option Int) := fun ρ P => we ρ ⟨fun p x ρ' => match x.2 with
  | .int i => P.ok p (some i) ρ'
  | _ => False, P.ex⟩
theorem q_no : PO X none (tO X.K W wNo) := PO.imp po_none fun σ H Q h => by
  obtain ⟨S, P, rfl, rfl, ok, w, k, _⟩ := h
  exact k _ _ S w rfl ok (Sta.refl S) (Tch.refl S _) _ rfl
theorem q_so {e : Expr} {we : DE (Kd × D)} (h : PE X e (te X.K W we)) : PO X (some e) (tO X.K W (wSo we)) := PO.imp (po_some h) fun σ H Q h => by
  obtain ⟨S, P, rfl, rfl, ok, w, k, ex⟩ := h
  unfold wSo at w
  refine ⟨S, _, rfl, rfl, ok, w, fun p x T e es okT t tc v hv => ?_, ex⟩
  obtain ⟨kd, d⟩ := x
  cases d with
  | int i => exact ⟨i, hv.int_inv okT, k _ _ T e es okT t tc _ rfl⟩
  | _ => exact e.elim
def wSl (we : DE (Kd × D)) (wl wh : DE (Option Int)) : DE (Kd × D) := fun ρ P => we ρ ⟨fun p1 x ρ1 => wl ρ1 ⟨fun p2 lo ρ2 => wh ρ2 ⟨fun p3 hi ρ3 => hold x.1 (p2 ++ p3) = true ∧ oSl x lo hi fun z => P.ok (p1 ++ (p2 ++ p3)) z ρ3, P.ex⟩, P.ex⟩, P.ex⟩
theorem te_sl {we : DE (Kd × D)} {wl wh : DE (Option Int)} {Q : VK} (h : te K W (wSl we wl wh) σ H Q) : tSl (rSlU K) (te K W we) (tO K W wl) (tO K W wh) σ H Q := by
  obtain ⟨S, P, rfl, rfl, ok, w, k, ex⟩ := h
  refine ⟨S, _, rfl, rfl, ok, w, fun p1 x S1 w1 e1 ok1 t1 pr1 v1 h1 => ?_, ex⟩
  refine ⟨S1, _, e1, rfl, ok1, w1, fun p2 lo S2 w2 e2 ok2 t2 pr2 lo' h2 => ?_, fun C fl T e es okT tT dd hd => ex C fl T e es okT (t1.trans tT) dd hd⟩
  refine ⟨S2, _, e2, rfl, ok2, w2, fun p3 hi S3 w3 e3 ok3 t3 pr3 hi' h3 => ?_, fun C fl T e es okT tT dd hd => ex C fl T e es okT ((t1.trans t2).trans tT) dd hd⟩
  cases h2; cases h3
  have t13 := (t1.trans t2).trans t3
  refine ok_Sl (S0 := S) ok3 (h1.stp ok1 (t2.trans t3) (e3.trans e1.symm) (pr2.trans pr3) w3.1) w3.2 fun z qz v G' H' g hz => ?_
  exact k _ _ (S3.at G' H') qz e3 (Sta.grow ok3 g) (t13.trans g.to) ((pr1.trans (pr2.trans pr3)).add g.tch) v (hz.from t13)
theorem q_sl {e : Expr} {lo hi : Option Expr} {we : DE (Kd × D)} {wl wh : DE (Option Int)} {p2 pos : Pos} (he : PE X e (te X.K W we)) (hl : PO X lo (tO X.K W wl)) (hh : PO X hi (tO X.K W wh)) : PE X (.Subscript e (.Slice lo hi none p2) pos) (te X.K W (wSl we wl wh)) :=
  PE.imp (pe_slice sl_any he hl hh) fun _ _ _ h => te_sl h
/-- a[b] -/
theorem q_ixU {a b : Expr} {wa wb : DE (Kd × D)} {pos : Pos} (hu : X.A.units + 1 < cLine) (ha : PE X a (te X.K W wa)) (hb : PE X b (te X.K W wb)) (hs : PlainIx b := by first | exact fun _ _ => rfl | (intro _ _; with_unfolding_all rfl)) : PE X (.Subscript a b pos) (te X.K W (wOp oIx wa wb)) := q_ix (ix_seq.or (ix_dict hu)) ok_Ix ha hb hs
/-! ### builtins -/
/-- one argument -/
def one1 (xs : List (Kd × D)) (q : Kd × D → Prop) : Prop := match xs with
  | [x] => q x
  | _ => False
def two2 (xs : List (Kd × D)) (q : Kd × D → Kd × D → Prop) : Prop := match xs with
  | [x, y] => q x y
  | _ => False
theorem one1_of {xs : List (Kd × D)} {q : Kd × D → Prop} (h : one1 xs q) : ∃ x, xs = [x] ∧ q x := by
  unfold one1 at h
  split at h
  · exact ⟨_, rfl, h⟩
  · exact h.elim
theorem two2_of {xs : List (Kd × D)} {q : Kd × D → Kd × D → Prop} (h : two2 xs q) : ∃ x y, xs = [x, y] ∧ q x y := by
  unfold two2 at h
  split at h
  · exact ⟨_, _, rfl, h⟩
  · exact h.elim
theorem HasA.one {vs : List V} {x : Kd × D} (h : HasA K S0 S vs [x]) : ∃ v, vs = [v] ∧ Has K S0 S x.1 v x.2 := by
  cases h with
  | cons h t => cases t; exact ⟨_, rfl, h⟩
theorem HasA.two {vs : List V} {x y : Kd × D} (h : HasA K S0 S vs [x, y]) : ∃ v u, vs = [v, u] ∧ Has K S0 S x.1 v x.2 ∧ Has K S0 S y.1 u y.2 := by
  cases h with
  | cons h t =>
    obtain ⟨u, rfl, h'⟩ := t.one
    exact ⟨_, _, rfl, h, h'⟩
/-- len -/
def lenD : D → Option Nat
  | .lst ds => some ds.length
  | .tup ds => some ds.length
  | .dct ds => some ds.length
  | .scr ns => some ns.length
  | .str z => if small z.length = true then some z.length else none
  | _ => none
def oLen : OL := fun xs q => one1 xs fun x => optK (lenD x.2) fun n => q (.fz, .int n)
def rLenU (K : PySem.W.Frag) : List V → Hp → VK → Prop := fun xs H Q => (∃ p ys, xs = [.ref p] ∧ (SqL K H p ys ∨ SqT K H p ys) ∧ Q (.int ys.length) H) ∨ (∃ z, xs = [.str z] ∧ z.length ≤ sizeLine ∧ Q (.int z.length) H) ∨ ∃ a kvs, xs = [V.ref a] ∧ Rd H a (.dK kvs) ∧ Q (.int kvs.length) H
theorem CallR.or {fv : Value} {r r' : List V → Hp → VK → Prop} (h : CallR X fv r) (h' : CallR X fv r') : CallR X fv (fun xs H Q => r xs H Q ∨ r' xs H Q) := fun pins s σ H xs us Q I rx q => by
  rcases q with q | q
  · exact h pins s σ H xs us Q I rx q
  · exact h' pins s σ H xs us Q I rx q
theorem call_lenR : CallR X (.builtin "len") (fun xs H Q => ∃ a kvs, xs = [V.ref a] ∧ Rd H a (.dK kvs) ∧ Q (.int kvs.length) H) := by
  intro pins s σ H xs us Q I r h
  obtain ⟨a, kvs, rfl, ha, q⟩ := h
  obtain ⟨u, rfl, ru⟩ := vals1 r
  cases ru
  exact d_len I ha fun t s' I' => ⟨.int kvs.length, H, I', ⟨t, rfl⟩, q⟩
theorem call_lenU : CallR X (.builtin "len") (rLenU X.K) := CallR.or call_len_seq (CallR.or call_len_str call_lenR)
theorem ok_Len : OkRL K (rLenU K) oLen := fun S0 S vs xs Q q ok hA h0 k => by
  obtain ⟨x, rfl, h⟩ := one1_of h0
  obtain ⟨n, en, qn⟩ := optK_of h
  obtain ⟨v, rfl, hx⟩ := hA.one
  obtain ⟨kd, d⟩ := x
  have fin := stay ok k qn (v := .int n) (.int _)
  have hd := hx.dt ok
  cases d with
  | lst ds =>
    cases en
    cases hd with
    | lst h1 h2 => exact .inl ⟨_, _, rfl, .inl (.of h1), by rw [h2.len]; exact fin⟩
  | tup ds =>
    cases en
    cases hd with
    | tup h1 h2 => exact .inl ⟨_, _, rfl, .inr h1, by rw [h2.len]; exact fin⟩
  | dct ds =>
    cases en
    cases hd with
    | dct h1 h2 => exact .inr (.inr ⟨_, _, rfl, h1, by rw [h2.len]; exact fin⟩)
  | scr ns =>
    cases en
    cases hd with
    | scr h1 => exact .inl ⟨_, _, rfl, .inl h1, by rw [List.length_map]; exact fin⟩
  | str z =>
    simp only [lenD] at en
    split at en
    · rename_i hz
      cases en
      cases hd with
      | str => exact .inr (.inl ⟨z, rfl, small_sz hz, fin⟩)
    · cases en
  | _ => cases en
/-- list(..) of a list, a tuple, a dict -/
def oList : OL := fun xs q => one1 xs fun x => match x.2 with
  | .dct _ => dctK x fun ds => q (.new (.L .F), .lst (ds.map fun kv => kD kv.1))
  | _ => itmK x fun ds => q (.new (.L .F), .lst ds)
def rListU (K : PySem.W.Frag) : List V → Hp → VK → Prop := fun xs H Q => (∃ p ys, xs = [.ref p] ∧ (SqL K H p ys ∨ SqT K H p ys) ∧ ∀ l, H l = none → Q (.ref l) (upd H l (.lst ys))) ∨ ∃ (a : Addr) (kvs : List (Key × V)), xs = [.ref a] ∧ Rd H a (.dK kvs) ∧ ∀ p, H p = none → Q (.ref p) (upd H p (.lst (kvs.map fun kv => L2.kV kv.1)))
theorem call_listU (hc : X.calm = true) : CallR X (.type "list") (rListU X.K) := CallR.or call_list_of (call_listD hc)
theorem DtK.keys : ∀ {vs : List (Key × V)} {ds : List (Key × D)}, DtK K G vs ds → DtA K G (vs.map fun kv => L2.kV kv.1) (ds.map fun kv => kD kv.1)
  | _, _, .nil => .nil
  | _, _, .cons h t => .cons (Dt.kV _) (DtK.keys t)
theorem ok_List : OkRL K (rListU K) oList := fun S0 S vs xs Q q ok hA h0 k => by
  obtain ⟨x, rfl, h⟩ := one1_of h0
  obtain ⟨v, rfl, hx⟩ := hA.one
  split at h
  · rename_i e1
    obtain ⟨a, kvs, ds, rfl, h1, h2, h⟩ := hx.dctR ok h
    exact .inr ⟨a, kvs, rfl, h1, fun p hp => new_lst ok k h h2.keys hp⟩
  · obtain ⟨a, ys, ds, rfl, h1, h2, h⟩ := hx.itmR ok h
    exact .inl ⟨a, ys, rfl, h1, fun p hp => new_lst ok k h h2 hp⟩
/-- tuple(..) of a list or a tuple -/
def oTuple : OL := fun xs q => one1 xs fun x => itmK x fun ds => q (.fz, .tup ds)
theorem ok_Tuple : OkRL K (fun xs H Q => ∃ p ys, xs = [.ref p] ∧ ((SqL K H p ys ∧ ∀ l, H l = none → Q (.ref l) (upd H l (.tup ys))) ∨ (SqT K H p ys ∧ Q (.ref p) H))) oTuple := fun S0 S vs xs Q q ok hA h0 k => by
  obtain ⟨⟨kd, d⟩, rfl, h⟩ := one1_of h0
  obtain ⟨v, rfl, hx⟩ := hA.one
  by_cases c : ∃ l, d = .tup l
  · obtain ⟨l, rfl⟩ := c
    obtain ⟨a, ys, ds, rfl, h1, dx, h2, h⟩ := tupR ok hx h
    exact ⟨a, ys, rfl, .inr ⟨h1, stay ok k h (v := .ref a) dx⟩⟩
  · have h' : lstK (kd, d) fun ds => q (.fz, .tup ds) := by
      unfold itmK at h
      split at h
      · rename_i l e
        cases e
        exact absurd ⟨_, rfl⟩ c
      · exact h
    obtain ⟨a, ys, ds, rfl, h1, h2, h⟩ := Has.lstR ok (x := (kd, d)) hx h'
    exact ⟨a, ys, rfl, .inl ⟨.of h1, fun p hp => new_tup ok k h h2 hp⟩⟩
/-- dict(..) of a dict -/
def oDict : OL := fun xs q => one1 xs fun x => dctK x fun ds => q (.new .K, .dct ds)
/-- lists of ints, of bools -/
def intsOf : List D → Option (List Int)
  | [] => some []
  | .int i :: r => match intsOf r with
    | some ns => some (i :: ns)
    | none => none
  | _ => none
def blsOf : List D → Option (List Bool)
  | [] => some []
  | .bl i :: r => match blsOf r with
    | some ns => some (i :: ns)
    | none => none
  | _ => none
theorem DtA.bls_of : ∀ {vs : List V} {ds : List D} {ns : List Bool}, DtA K G vs ds → blsOf ds = some ns → vs = ns.map V.bl
  | _, _, _, .nil, e => by cases e; rfl
  | _, _, _, .cons h t, e => by
    cases h <;> simp only [blsOf] at e <;> first
      | cases e
      | (split at e
         · rename_i e'
           cases e
           rw [DtA.bls_of t e']
           rfl
         · cases e)
def oSorted : OL := fun xs q => one1 xs fun x => lstK x fun ds => optK (intsOf ds) fun ns => ∀ ns' : List Int, ns'.Perm ns → ns'.Pairwise (· ≤ ·) → q (.new (.L .F), .lst (ns'.map .int))
def oAll : OL := fun xs q => one1 xs fun x => lstK x fun ds => optK (blsOf ds) fun bs => q (.fz, .bl (bs.all id))
theorem ok_All : OkRL K (rAll K) oAll := fun S0 S vs xs Q q ok hA h0 k => by
  obtain ⟨x, rfl, h⟩ := one1_of h0
  obtain ⟨v, rfl, hx⟩ := hA.one
  obtain ⟨a, ys, ds, rfl, h1, h2, h⟩ := hx.lstR ok h
  obtain ⟨bs, en, h⟩ := optK_of h
  have e := h2.bls_of en
  subst e
  exact ⟨a, bs, rfl, .of h1, stay ok k h (v := .bl _) (.bl _)⟩
def oSum : OL := fun xs q => one1 xs fun x => lstK x fun ds => optK (intsOf ds) fun ns => q (.fz, .int ns.sum)
def oMax2 : OL := fun xs q => two2 xs fun x y => intK x.2 y.2 fun i j => q (.fz, .int (if j > i then j else i))
def oMin2 : OL := fun xs q => two2 xs fun x y => intK x.2 y.2 fun i j => q (.fz, .int (if j < i then j else i))
theorem ok_Max2 : OkRL K (fun xs H Q => ∃ i j, xs = [.int i, .int j] ∧ Q (.int (if j > i then j else i)) H) oMax2 := fun S0 S vs xs Q q ok hA h0 k => by
  obtain ⟨⟨k1, d1⟩, ⟨k2, d2⟩, rfl, h⟩ := two2_of h0
  obtain ⟨v, u, rfl, hx, hy⟩ := hA.two
  obtain ⟨i, j, rfl, rfl, h⟩ := intK_of (h : intK d1 d2 _)
  obtain rfl := hx.int_inv ok
  obtain rfl := hy.int_inv ok
  exact ⟨i, j, rfl, stay ok k h (v := .int _) (.int _)⟩
theorem ok_Min2 : OkRL K (fun xs H Q => ∃ i j, xs = [.int i, .int j] ∧ Q (.int (if j < i then j else i)) H) oMin2 := fun S0 S vs xs Q q ok hA h0 k => by
  obtain ⟨⟨k1, d1⟩, ⟨k2, d2⟩, rfl, h⟩ := two2_of h0
  obtain ⟨v, u, rfl, hx, hy⟩ := hA.two
  obtain ⟨i, j, rfl, rfl, h⟩ := intK_of (h : intK d1 d2 _)
  obtain rfl := hx.int_inv ok
  obtain rfl := hy.int_inv ok
  exact ⟨i, j, rfl, stay ok k h (v := .int _) (.int _)⟩
/-- max, min of a list of ints -/
def oMaxL : OL := fun xs q => one1 xs fun x => lstK x fun ds => optK (intsOf ds) fun ns => 0 < ns.length ∧ ∀ m, m ∈ ns → (∀ y, y ∈ ns → y ≤ m) → q (.fz, .int m)
def oMinL : OL := fun xs q => one1 xs fun x => lstK x fun ds => optK (intsOf ds) fun ns => 0 < ns.length ∧ ∀ m, m ∈ ns → (∀ y, y ∈ ns → m ≤ y) → q (.fz, .int m)
/-- int(..) of an int or a bool -/
def oInt : OL := fun xs q => one1 xs fun x => match x.2 with
  | .int i => q (.fz, .int i)
  | .bl b => q (.fz, .int (if b then 1 else 0))
  | _ => False
def oAbs : OL := fun xs q => one1 xs fun x => match x.2 with
  | .int i => q (.fz, .int (if i < 0 then -i else i))
  | _ => False
def oStr : OL := fun xs q => one1 xs fun x => match x.2 with
  | .int i => i.natAbs.log2 < 1920 ∧ q (.fz, .str (toString i))
  | _ => False
theorem ok_Str : OkRL K (fun xs H Q => ∃ i, xs = [.int i] ∧ i.natAbs.log2 < 1920 ∧ Q (.str (toString i)) H) oStr := fun S0 S vs xs Q q ok hA h0 k => by
  obtain ⟨⟨kd, d⟩, rfl, h⟩ := one1_of h0
  obtain ⟨v, rfl, hx⟩ := hA.one
  cases d with
  | int i =>
    obtain rfl := hx.int_inv ok
    exact ⟨i, rfl, h.1, stay ok k h.2 (v := .str _) (.str _)⟩
  | _ => exact h.elim
/-! ### isinstance -/
def tyN : D → Option String
  | .non => some "NoneType"
  | .bl _ => some "bool"
  | .int _ => some "int"
  | .str _ => some "str"
  | .lst _ => some "list"
  | .tup _ => some "tuple"
  | .dct _ => some "dict"
  | .scr _ => some "list"
  | .obj _ _ => none
  | .exc _ => none
  | .ndc _ => none
  | .exf _ _ => none
/-- is the type's name t of the class T: the builtin ones -/
def isTy (t T : String) : Bool := t == T || (t == "bool" && T == "int")
theorem TyX.lst {a : Addr} {xs : List V} (h : SqL K H a xs) : TyX K H (.ref a) (.type "list") := by
  rcases h with (h | ⟨o, h⟩) | ⟨o, its, n, hk, hc, _⟩
  · exact .base (.lst h)
  · exact .base (.frz h)
  · exact .kList hk hc
theorem TyX.tup {a : Addr} {xs : List V} (h : SqT K H a xs) : TyX K H (.ref a) (.type "tuple") := by
  rcases h with (h | ⟨o, h⟩) | ⟨o, its, n, hk, hc, _⟩
  · exact .base (.tup h)
  · exact .fTuple h
  · exact .kTuple hk hc
theorem Dt.tyX {v : V} {d : D} {t : String} (h : Dt K G v d) (e : tyN d = some t) : TyX K G v (.type t) := by
  cases h with
  | non => cases e; exact .base .non
  | bl => cases e; exact .base (.bl _)
  | int => cases e; exact .base (.int _)
  | str => cases e; exact .base (.str _)
  | lst h1 h2 => cases e; exact .base (.lst h1)
  | tup h1 h2 => cases e; exact TyX.tup h1
  | dct h1 h2 =>
    cases e
    rcases h1 with h1 | ⟨o, h1⟩
    · exact .base (.dK h1)
    · exact .fDict h1
  | scr h1 => cases e; exact TyX.lst h1
  | obj => cases e
  | exc => cases e
  | ndc => cases e
  | exf => cases e
def wIsi (T : String) (we : DE (Kd × D)) : DE (Kd × D) := fun ρ P => we ρ ⟨fun p x ρ' => optK (tyN x.2) fun t => P.ok p (.fz, .bl (isTy t T)) ρ', P.ex⟩
def goodTy (T : String) : Bool := ["NoneType", "bool", "int", "str", "list", "tuple", "dict"].all fun t => match kitB t T with
  | some b => b == isTy t T
  | none => false
theorem tyN_mem {d : D} {t : String} (e : tyN d = some t) : t ∈ ["NoneType", "bool", "int", "str", "list", "tuple", "dict"] := by
  cases d <;> cases e <;> decide
theorem te_isi {T : String} {we : DE (Kd × D)} {Q : VK} (hT : goodTy T = true) (h : te K W (wIsi T we) σ H Q) : tCB (rIsi K) (tCons (te K W we) (tCons (tC (.ty T)) tNil)) σ H Q := by
  obtain ⟨S, P, rfl, rfl, ok, w, k, ex⟩ := h
  refine ⟨S, _, rfl, rfl, ok, w, fun p x T' e es okT t tc v hv => ?_, ex⟩
  obtain ⟨tn, et, q⟩ := optK_of e
  have hk : kitB tn T = some (isTy tn T) := by
    have h9 := List.all_eq_true.mp hT tn (tyN_mem et)
    split at h9
    · rename_i b eb
      rw [eb]
      exact congrArg some (by simpa using h9)
    · cases h9
  exact ⟨v, .ty T, .type tn, .type T, isTy tn T, rfl, .ty T, (hv.dt okT).tyX et, kit_ty hk, k _ _ T' q es okT t tc _ (.bl _)⟩
theorem q_isi (T : String) {x : Str} {e : Expr} {we : DE (Kd × D)} {p p2 pos : Pos} (hm : X.mg "isinstance" = none) (hmT : X.mg x = none) (he : PE X e (te X.K W we)) (hv : bootBuiltins x = some (.type T) := by rfl) (hg : Gl X "isinstance" := by rfl) (hgT : Gl X x := by rfl) (hT : goodTy T = true := by decide +kernel)
    (hn : x ≠ "__name__" := by decide) (hdb : (x == ("__debug__" : Str)) = false := by decide) (hs : starEach [e, .Name x p2] X.env = (false, eval e X.env) :: starEach [.Name x p2] X.env := by rfl) (hs2 : starEach [.Name x p2] X.env = (false, eval (.Name x p2) X.env) :: starEach [] X.env := by rfl) (hpl : (backTo pos (starEach [.Name x p2] X.env)).any (·.1) = false := by rfl) :
    PE X (.Call (.Name "isinstance" p) [e, .Name x p2] [] pos) (te X.K W (wIsi T we)) :=
  PE.imp (pe_callB call_isi hg hm (by rfl) (pa_cons he (pa_cons (pe_bltn (v := .ty T) hgT hmT hv rfl hn hdb) pa_nil hs2) hs) (by decide) (by decide) hs hpl) fun _ _ _ h => te_isi hT h
end
end VL

namespace VL
open PySem PySem.Spec PyProof.Rows L2
section
variable {K : PySem.W.Frag} {W : WX} {G G' H H' H0 : Hp} {σ : L2.St} {ρ : Rho} {f f' : Own} {pin : Nat → Option V} {X : Cx} {S S0 S1 T T1 T2 U : Sta} {E : En} {Z : Ends}
/-! ### a list's methods -/
def mApp : OM := fun ds es q => match es with
  | [x] => small (ds.length + 1) = true ∧ q (ds ++ [x]) .non
  | _ => False
theorem small_lt {n : Nat} (h : small (n + 1) = true) : n < sizeLine := Nat.lt_of_lt_of_le (Nat.lt_succ_self _) (small_sz h)
theorem ok_App : OkML K rAppend mApp := fun G H a xs ds vs es Q q e ha ga hx hv h k => by
  unfold mApp at h
  split at h
  · cases hv with
    | cons h1 t =>
      cases t
      exact ⟨a, xs, _, rfl, rfl, ha, by rw [hx.len]; exact small_lt h.1, k _ _ h.2 _ _ (hx.append (.cons h1 .nil)) .non⟩
  · exact h.elim
def mExt : OM := fun ds es q => match es with
  | [.lst xs] => small (ds.length + xs.length) = true ∧ q (ds ++ xs) .non
  | _ => False
def mClear : OM := fun ds es q => match es with
  | [] => q [] .non
  | _ => False
def mRev : OM := fun ds es q => match es with
  | [] => q ds.reverse .non
  | _ => False
theorem DtA.dropLast : ∀ {vs : List V} {ds : List D}, DtA K G vs ds → DtA K G vs.dropLast ds.dropLast
  | _, _, .nil => .nil
  | _, _, .cons h .nil => .nil
  | _, _, .cons h (.cons h' t) => .cons h (DtA.dropLast (.cons h' t))
theorem DtA.erase : ∀ {vs : List V} {ds : List D} (j : Nat), DtA K G vs ds → DtA K G (vs.eraseIdx j) (ds.eraseIdx j)
  | _, _, _, .nil => .nil
  | _, _, 0, .cons h t => t
  | _, _, j + 1, .cons h t => .cons h (DtA.erase j t)
def mPop : OM := fun ds es q => match es with
  | [] => optK ds[ds.length - 1]? fun d => q ds.dropLast d
  | [.int i] => (-(2 ^ 63) ≤ i ∧ i < 2 ^ 63) ∧ optK (seqIndex? i ds.length) fun j => optK ds[j]? fun d => q (ds.eraseIdx j) d
  | _ => False
def q_app' := @te_mut
section
variable {o : Expr} {wr : DE (Kd × D)} {wa : DE (List (Kd × D))} {e : Expr} {es : List Expr} {name : Str} {id : String} {r : V → List V → Hp → VK → Prop} {om : OM} {apos cpos : Pos}
theorem q_lm (slot : Slot "list" name id) (hty : typeOf (.builtin id) = pure (.type "method_descriptor")) (hm : MtR X id r) (hr : OkML X.K r om) (ho : PE X o (te X.K W wr)) (ha : PA X (e :: es) (ta X.K W wa))
    (hbase : attributeBase o name X.env (eval o X.env) = eval o X.env := by rfl)
    (hfew : ((backTo cpos (starEach (e :: es) X.env)).all (fun x => !x.1) && (backToKw cpos (keywordEach [] X.env)).all (fun x => x.1.isSome) && decide ((e :: es).length + ([] : List Keyword).length + (if ([] : List Keyword).isEmpty then 0 else 1) < 30)) = true := by rfl)
    (hline : (apos.endLine == cpos.line) = true := by rfl) (hs : starEach (e :: es) X.env = (false, eval e X.env) :: starEach es X.env := by rfl) (hplain : (backTo cpos (starEach es X.env)).any (·.1) = false := by rfl) :
    PE X (.Call (.Attribute o name apos) (e :: es) [] cpos) (te X.K W (wMut om wr wa)) := PE.imp (pe_bm PySem.F.plainAttrs_list slot hty hm ho ha hbase hfew hline hs hplain) fun _ _ _ h => te_mut hr h
end
/-! ### a dict's methods -/
def isDct : D → Bool
  | .dct _ => true
  | _ => false
/-- d.get(k), d.get(k, x) -/
def oGet (x : Kd × D) (es : List (Kd × D)) (q : Kd × D → Prop) : Prop := match es with
  | [y] => optK (keyOf y.2) fun k => dctK x fun ds => match valD ds k with
    | some d => q (.fz, d)
    | none => q (.fz, .non)
  | [y, (.fz, z)] => optK (keyOf y.2) fun k => dctK x fun ds => match valD ds k with
    | some d => q (.fz, d)
    | none => q (.fz, z)
  | _ => False
def rGetU : V → List V → Hp → VK → Prop := fun x vs H Q => (∃ a y o, x = .ref a ∧ vs = [y] ∧ DGet H a y o ∧ Q (o.getD .non) H) ∨ ∃ a y z o, x = .ref a ∧ vs = [y, z] ∧ DGet H a y o ∧ Q (o.getD z) H
def wGet (wr : DE (Kd × D)) (wa : DE (List (Kd × D))) : DE (Kd × D) := fun ρ P => wr ρ ⟨fun p1 x ρ1 => isDct x.2 = true ∧ wa ρ1 ⟨fun p2 es ρ2 => hold x.1 p2 = true ∧ oGet x es fun z => P.ok (p1 ++ p2) z ρ2, P.ex⟩, P.ex⟩
def tBMD (r : V → List V → Hp → VK → Prop) (to : TE) (t : TA) : TE := fun σ H Q => to σ H fun x H1 => (∃ a, x = .ref a ∧ IsD H1 a) ∧ t σ H1 fun xs H2 => r x xs H2 Q
section
variable {o e : Expr} {es : List Expr} {wr : DE (Kd × D)} {wa : DE (List (Kd × D))} {apos cpos : Pos}
end
/-- a dict of one's own gets other entries -/
theorem Has.dctO (ok : T.ok K) {i : Nat} {p : List Nat} {v : V} {ds : List (Key × D)} (h : Has K S0 T (.bor i p .K) v (.dct ds)) : ∃ a xs, v = .ref a ∧ T.H a = some (.dK xs) ∧ DtK K T.G xs ds ∧ T.G a = none ∧ Lent K T i p .K (.ref a) (.dct ds) [a] := by
  obtain ⟨fq, l⟩ := h.lent ok
  have r := l.r
  cases r with
  | K ha t => exact ⟨_, _, rfl, ha, t, ok.out i _ (l.sub _ List.mem_cons_self), l⟩
theorem dct_put (ok : T.ok K) {i : Nat} {p : List Nat} {a : Addr} {ds ds' : List (Key × D)} {xs' : List (Key × V)} (l : Lent K T i p .K (.ref a) (.dct ds) [a]) (h' : DtK K T.G xs' ds') :
    ∃ U : Sta, U.ok K ∧ T.to U ∧ Tch [i] T U ∧ U.σ = T.σ ∧ U.H = upd T.H a (.dK xs') ∧ U.ρ = setAt T.ρ i p (.dct ds') ∧ U.G = T.G := by
  obtain ⟨f2, z1, z2, z3⟩ := mut_state (o' := .dK xs') (d' := .dct ds') ok l List.mem_cons_self (.K upd_same h') (by simp) (fun b hb => hb)
  exact ⟨_, z1, z2, z3, rfl, rfl, rfl, rfl⟩
/-- d.pop(k), d.pop(k, x) -/
def dPopK (x : Kd × D) (es : List (Kd × D)) (q : Nat → List Nat → D → D → Prop) (q0 : D → Prop) : Prop := match x, es with
  | (.bor i p .K, .dct ds), [y] => optK (keyOf y.2) fun k => optK (valD ds k) fun d => q i p (.dct (dropKD ds k)) d
  | (.bor i p .K, .dct ds), [y, (.fz, z)] => optK (keyOf y.2) fun k => match valD ds k with
    | some d => q i p (.dct (dropKD ds k)) d
    | none => q0 z
  | _, _ => False
def wPopD (wr : DE (Kd × D)) (wa : DE (List (Kd × D))) : DE (Kd × D) := fun ρ P => wr ρ ⟨fun p1 x ρ1 => isDct x.2 = true ∧ wa ρ1 ⟨fun p2 es ρ2 => hold x.1 p2 = true ∧ dPopK x es (fun i p d' z => P.ok (p1 ++ (p2 ++ [i])) (.fz, z) (setAt ρ2 i p d')) (fun z => P.ok (p1 ++ p2) (.fz, z) ρ2), P.ex⟩, P.ex⟩
def rPopU : V → List V → Hp → VK → Prop := fun x vs H Q => (∃ a kvs k v, x = .ref a ∧ vs = [kV k] ∧ H a = some (.dK kvs) ∧ valV kvs k = some v ∧ Q v (upd H a (.dK (dropK kvs k)))) ∨
  ∃ a kvs k z, x = .ref a ∧ vs = [kV k, z] ∧ H a = some (.dK kvs) ∧ (∀ v, valV kvs k = some v → Q v (upd H a (.dK (dropK kvs k)))) ∧ (valV kvs k = none → Q z H)
section
variable {o e : Expr} {es : List Expr} {wr : DE (Kd × D)} {wa : DE (List (Kd × D))} {apos cpos : Pos}
end
/-! ### o[i] = v -/
def subK (r y : Kd × D) (v : D) (q : Nat → List Nat → D → Prop) : Prop := match r, y.2 with
  | (.bor i p (.L .F), .lst ds), .int k => optK (ixN ds.length k) fun j => q i p (.lst (ds.set j v))
  | (.bor i p .K, .dct ds), d => optK (keyOf d) fun k => small (ds.length + 1) = true ∧ q i p (.dct (putKD ds k v))
  | _, _ => False
theorem DtA.set : ∀ {vs : List V} {ds : List D} (j : Nat) {v : V} {d : D}, DtA K G vs ds → Dt K G v d → DtA K G (vs.set j v) (ds.set j d)
  | _, _, _, _, _, .nil, _ => .nil
  | _, _, 0, _, _, .cons h t, hv => .cons hv t
  | _, _, j + 1, _, _, .cons h t, hv => .cons h (DtA.set j t hv)
def wSub (wv wr wi : DE (Kd × D)) : DS := fun E ρ => wFz wv ρ ⟨fun _ x ρ1 => x.1.md = some .F ∧ wr ρ1 ⟨fun _ r ρ2 => wi ρ2 ⟨fun p3 y ρ3 => hold r.1 p3 = true ∧ subK r y x.2 fun i p d' => E.nx (setAt ρ3 i p d'), E.ex⟩, E.ex⟩, E.ex⟩
theorem Kd.md_F {k : Kd} (h : k.md = some .F) : k = .fz ∨ k = .new .F := by
  cases k with
  | fz => exact .inl rfl
  | new m => cases h; exact .inr rfl
  | bor i p m => cases h
theorem ts_sub {wv wr wi : DE (Kd × D)} (h : ts K W (wSub wv wr wi) Z σ H) : tAsg (te K W wv) (gSub (te K W wr) (te K W wi) fun o i v H Q => rSetL o i v H Q ∨ rSetD o i v H Q) Z σ H := by
  obtain ⟨S, E, rfl, rfl, ok, w, l⟩ := h
  unfold tAsg gSub
  refine te_fz (te_in ok l w fun p x T e es okT t _ v hv => ?_)
  rw [← es]
  have l1 := l.to t
  have hvF : Dt K T.G v x.2 := by
    obtain ⟨kd, d⟩ := x
    rcases Kd.md_F e.1 with e9 | e9
    · have e9 : kd = .fz := e9
      subst e9; exact hv
    · have e9 : kd = .new .F := e9
      subst e9
      obtain ⟨fp, r, _⟩ := hv
      exact r.F_inv.1
  refine te_in okT l1 e.2 fun p2 r T2 e2 es2 ok2 t2 _ o hr => ?_
  rw [← es2]
  have l2 := l1.to t2
  refine te_in ok2 l2 e2 fun p3 y T3 e3 es3 ok3 t3 c3 i hy => ?_
  rw [← es3]
  have l3 := l2.to t3
  have hr3 := hr.stp ok2 t3 es3 c3 e3.1
  have hv3 : Dt K T3.G v x.2 := (hvF.mono t2.stp.gext).mono t3.stp.gext
  have e4 : subK r y x.2 fun i p d' => E.nx (setAt T3.ρ i p d') := e3.2
  obtain ⟨ky, dy⟩ := y
  unfold subK at e4
  split at e4
  · rename_i j p ds k0 eq
    cases eq
    obtain ⟨jj, ej, e4⟩ := optK_of e4
    obtain ⟨a, xs, rfl, ha, hx, ga, ll⟩ := hr3.lstO ok3
    obtain ⟨U, okU, tU, cU, uσ, uH, uρ, uG⟩ := lst_put ok3 ll (hx.set jj hv3)
    refine .inl ⟨a, xs, k0, jj, rfl, hy.int_inv ok3, ha, by rw [hx.len]; exact ej, ?_⟩
    have z := l3.nx U (by rw [uρ]; exact e4) okU tU
    rw [uσ, uH] at z
    exact z
  · rename_i j p ds d0 _
    obtain ⟨key, ek, sm, e4⟩ := optK_of e4
    obtain ⟨a, xs, rfl, ha, hx, ga, ll⟩ := hr3.dctO ok3
    obtain ⟨U, okU, tU, cU, uσ, uH, uρ, uG⟩ := dct_put ok3 ll (hx.put (k := key) hv3)
    have hyv := (hy.dt ok3).key ek
    subst hyv
    refine .inr ⟨a, _, rfl, .inl ⟨xs, key, ha, rfl, by rw [hx.len]; exact small_lt sm, rfl⟩, ?_⟩
    have z := l3.nx U (by rw [uρ]; exact e4) okU tU
    rw [uσ, uH] at z
    exact z
  · exact e4.elim
theorem PSet.or {r r' : TSet} (h : PSet X r) (h' : PSet X r') : PSet X (fun o i v H Q => r o i v H Q ∨ r' o i v H Q) := fun pins s σ H o i v ov iv u Q I ro ri rv q => by
  rcases q with q | q
  · exact h pins s σ H o i v ov iv u Q I ro ri rv q
  · exact h' pins s σ H o i v ov iv u Q I ro ri rv q
theorem q_sub {o i e : Expr} {wr wi wv : DE (Kd × D)} {p pos : Pos} (hu : X.A.units + 1 < cLine) (ho : PE X o (te X.K W wr)) (hi : PE X i (te X.K W wi)) (he : PE X e (te X.K W wv)) (hs : swapsWithSole [.Subscript o i p] e pos.line X.env = pure false := by rfl) (hw : swappedStores [.Subscript o i p] e X.env = pure none := by rfl)
    (h1 : (assignEach [.Subscript o i p] X.env).map (·.2) = [assign (.Subscript o i p) X.env] := by rfl)
    (hz : ∀ z, assign (.Subscript o i p) X.env z = (do let a ← holding [z] (eval o X.env); let b ← holding [z, a] (eval i X.env); standAt p; holding [z, a, b] (setItem a b z); release [z, a, b] []) := by intro _; rfl) : PS X (.Assign [.Subscript o i p] e pos) (ts X.K W (wSub wv wr wi)) := PS.imp (ps_asg he (pg_sub ho hi (PSet.or set_list (set_dict hu)) hz) hs hw h1) fun _ _ _ h => ts_sub h
end
end VL

namespace VL
open PySem PySem.Spec PyProof.Rows L2
section
variable {K : PySem.W.Frag} {W : WX} {G G' H H' H0 : Hp} {σ : L2.St} {ρ : Rho} {f f' : Own} {pin : Nat → Option V} {X : Cx} {S S0 S1 T T1 T2 U : Sta} {E : En} {Z : Ends}
/-! ### a method of one's own class: the exceptions by the slots -/
def tMethW (C : Addr) (m : Str) (sp : Sp) (dvs : List V) (EX : L2.St → XK) (ta : TE) (t : TA) : TE := fun σ H Q => ta σ H fun x H1 => ∃ a dx fs, x = .ref a ∧ H1 a = some (.ins C dx fs) ∧ fs.lookup m = none ∧ t σ H1 fun vs H2 => sp (x :: (vs ++ dvs)) H2 Q (EX σ)
def tMakeW (C : Addr) (sp : Sp) (dvs : List V) (EX : L2.St → XK) (t : TA) : TE := fun σ H Q => t σ H fun vs H1 => ∀ x dx, H1 x = none → H1 dx = none → dx ≠ x →
  sp (.ref x :: (vs ++ dvs)) (upd (upd H1 dx (.own x)) x (.ins C dx [])) (fun v H2 => v = .non ∧ Q (.ref x) H2) (EX σ)
section
variable {CX : CXT} {k : Nat} {fa C : Addr} {fd : FuncData} {ps : List Str} {sp : Sp} {dvs : List V} {dvl : List Value} {EX : L2.St → XK} {x m : Str} {p pos apos : Pos} {e o : Expr} {es : List Expr} {tr : TE} {t : TA}
theorem run_makeW {pins : List (Addr × Obj)} {s : Shared} {Q : VK} {us : List Value} {vs : List V} (M : Mk X.K C fa) (F : FnOk X.prog X.w X.K X.mg X.base CX k fa fd ps sp) (hr : Room (k + 1) X.A) (hb : Binds X.K fd ps dvl) (hd : Vals dvs dvl)
    (hx : PassesAt CX X σ (EX σ)) (I : Inv X pins σ H s) (r : Vals vs us) (h : ∀ x dx, H x = none → H dx = none → dx ≠ x → sp (.ref x :: (vs ++ dvs)) (upd (upd H dx (.own x)) x (.ins C dx [])) (fun v H2 => v = .non ∧ Q (.ref x) H2) (EX σ)) :
    wpAny (model X.prog X.w) X.A (call (.ref C) us) (EP X pins σ Q) X.xe s := by
  have hq := h (s.heap.objs.size + 1) s.heap.objs.size (I.hok.fresh (Nat.le_succ _)) (I.hok.fresh (Nat.le_refl _)) (Nat.ne_of_lt (Nat.lt_succ_self _))
  have J := Inv.made (C := C) I
  have rr : Vals (V.ref (s.heap.objs.size + 1) :: (vs ++ dvs)) (Value.ref (s.heap.objs.size + 1) :: (us ++ dvl)) := .cons rfl (r.append hd)
  have hl : (Value.ref (s.heap.objs.size + 1) :: us ++ dvl).length = ps.length := by
    have e := rr.length
    rw [F.len _ _ _ _ hq] at e
    exact e.symm
  refine wpAny_call (make_map (f := fa) I.kIn M.makes M.init (beq_iff_eq.mp M.fn) (codeAny_mono (F.run _ X.stack _ _ ⟨Value.ref (s.heap.objs.size + 1) :: us, []⟩ (Value.ref (s.heap.objs.size + 1) :: (us ++ dvl)) _ _ (EX σ) (hr.make C us []) (J.env0.make C us []) (hb _ (Value.ref (s.heap.objs.size + 1) :: us) J.kIn hl) rr hq) fun w s' hw => ?_))
  cases w with
  | error e => exact hx pins _ _ e s' J hw
  | ok fl =>
    cases fl with
    | ret u =>
      obtain ⟨v, H', I3, rv, ev, q3⟩ := J.after hw
      subst ev
      exact ⟨rv, ⟨V.ref (s.heap.objs.size + 1), H', I3, rfl, q3⟩⟩
    | next => exact False.elim hw
    | brk => exact False.elim hw
    | cont => exact False.elim hw
theorem pe_makeW (M : Mk X.K C fa) (F : FnOk X.prog X.w X.K X.mg X.base CX k fa fd ps sp) (hr : Room (k + 1) X.A) (hg : Gl X x) (hm : X.mg x = some (.ref C)) (hb : Binds X.K fd ps dvl) (hd : Vals dvs dvl) (hx : ∀ σ, PassesAt CX X σ (EX σ))
    (ha : PA X (e :: es) t) (hdb : (x == ("__debug__" : Str)) = false := by decide) (he : starEach (e :: es) X.env = (false, eval e X.env) :: starEach es X.env := by rfl) (hpl : (backTo pos (starEach es X.env)).any (·.1) = false := by rfl) :
    PE X (.Call (.Name x p) (e :: es) [] pos) (tMakeW C sp dvs EX t) := by
  refine ⟨fun pins s σ H Q I h => ?_⟩
  refine wpAny_Call_Name_kw (ld_glob I hg hm ?_ hdb)
  refine PySem.W.callWith_K (h₀ := X.base) I.ok.mod.kin M.kp (thn (ha.run pos pins s σ H _ I h) fun us s1 ⟨vs, H1, I1, r, q⟩ => ⟨I1.kIn, ?_⟩) he hpl
  exact run_makeW M F hr hb hd (hx σ) I1 r q
end
/-- the receiver: an instance of C that has no field m -/
def objOk (C : Addr) (m : Str) (d : D) : Prop := match d with
  | .obj C' fs => C' = C ∧ (fs.map (·.1)).contains m = false
  | _ => False
theorem Has.obj (ok : T.ok K) {x : Kd × D} {v : V} {C : Addr} {m : Str} (h : Has K S0 T x.1 v x.2) (e : objOk C m x.2) : ∃ a dx fs, v = .ref a ∧ T.H a = some (.ins C dx fs) ∧ fs.lookup m = none := by
  obtain ⟨kd, d⟩ := x
  have q := h.dt ok
  cases d with
  | obj C' fs =>
    obtain ⟨rfl, e⟩ := e
    cases q with
    | obj hG n hf => exact ⟨_, _, _, rfl, hG, lookup_out (by rw [hf.names]; simpa using e)⟩
  | _ => exact e.elim
def wMeth (C : Addr) (m : Str) (ms : List Md) (Wf : DF) (dfl : List D) (wr : DE (Kd × D)) (wa : DE (List (Kd × D))) : DE (Kd × D) := fun ρ P => wr ρ ⟨fun p1 x ρ1 => objOk C m x.2 ∧ wa ρ1 ⟨fun p2 xs ρ2 => hold x.1 p2 = true ∧ callK ms Wf (p1 ++ p2) (x :: (xs ++ dfl.map fun d => (.fz, d))) ρ2 P, P.ex⟩, P.ex⟩
/-- C(..) -/
def headK (d' : List D) (q : D → Prop) : Prop := match d' with
  | d :: _ => q d
  | [] => False
def wMake (C : Addr) (n : Nat) (fm : List Md) (Wf : DF) (dfl : List D) (wa : DE (List (Kd × D))) : DE (Kd × D) := fun ρ P => wa ρ ⟨fun p xs ρ1 => (allFz xs = true ∧ xs.length + dfl.length = n) ∧ Wf (.obj C [] :: (xs.map (·.2) ++ dfl)) ⟨fun z ds' => isN z.2 = true ∧ headK ds' fun d => P.ok p (.new (.O fm), d) ρ1, fun C fl _ => P.ex C fl ρ1⟩, P.ex⟩
def mkMs (fm : List Md) (n : Nat) : List Md := .P (.O fm) :: List.replicate n .F
section
variable {k : Nat} {fa C : Addr} {fd : FuncData} {ps : List Str} {ms : List Md} {Wf : DF} {x m : Str} {p pos apos : Pos} {o e : Expr} {es : List Expr} {wr : DE (Kd × D)} {wa : DE (List (Kd × D))} {n : Nat} {fm : List Md}
end
/-! ### a module's constants -/
theorem q_glob {x : Str} {v : V} {u : Value} {d : D} {pos : Pos} (hd : ∀ G, Dt X.K G v d) (hm : X.mg x = some u) (r : RelV v u) (hg : Gl X x := by rfl) (hdb : (x == ("__debug__" : Str)) = false := by decide) : PE X (.Name x pos) (te X.K W (wC d)) :=
  PE.imp (pe_glob hg hm r hdb) fun _ _ _ h => te_c hd h
end
end VL

namespace VL
open PySem PySem.Spec PyProof.Rows L2
/-! ### the readings, run by simp from the head -/
section
variable {ρ : Rho} {P : Po (Kd × D)} {PB : Po Bool} {PA' : Po (List (Kd × D))} {PL : Po (List D)} {PO' : Po (Option Int)} {E : En}
def slotK (ρ : Rho) (i : Nat) (q : Md → D → Prop) : Prop := match ρ[i]? with
  | some (some (m, d)) => q m d
  | _ => False
@[simp ↓] theorem slotK_0 {m : Md} {d : D} {q : Md → D → Prop} : slotK (some (m, d) :: ρ) 0 q = q m d := rfl
@[simp ↓] theorem slotK_n {q : Md → D → Prop} : slotK (none :: ρ) 0 q = False := rfl
@[simp ↓] theorem slotK_s {x : Option (Md × D)} {i : Nat} {q : Md → D → Prop} : slotK (x :: ρ) (i + 1) q = slotK ρ i q := by simp [slotK]
def stK (i : Nat) (md : Md × D) (ρ : Rho) (q : Rho → Prop) : Prop := okSlot ρ i = true ∧ q (ρ.set i (some md))
@[simp ↓] theorem stK_n {md : Md × D} {q : Rho → Prop} : stK 0 md (none :: ρ) q = q (some md :: ρ) := by simp [stK, okSlot]
@[simp ↓] theorem stK_F {d : D} {md : Md × D} {q : Rho → Prop} : stK 0 md (some (.F, d) :: ρ) q = q (some md :: ρ) := by simp [stK, okSlot]
@[simp ↓] theorem stK_L {m : Md} {d : D} {md : Md × D} {q : Rho → Prop} : stK 0 md (some (.L m, d) :: ρ) q = q (some md :: ρ) := by simp [stK, okSlot]
@[simp ↓] theorem stK_K {d : D} {md : Md × D} {q : Rho → Prop} : stK 0 md (some (.K, d) :: ρ) q = q (some md :: ρ) := by simp [stK, okSlot]
@[simp ↓] theorem stK_O {ms : List Md} {d : D} {md : Md × D} {q : Rho → Prop} : stK 0 md (some (.O ms, d) :: ρ) q = q (some md :: ρ) := by simp [stK, okSlot]
@[simp ↓] theorem stK_s {x : Option (Md × D)} {i : Nat} {md : Md × D} {q : Rho → Prop} : stK (i + 1) md (x :: ρ) q = stK i md ρ (fun ρ' => q (x :: ρ')) := by simp [stK, okSlot]
def ifK (b : Bool) (A B : Prop) : Prop := if b = true then A else B
@[simp ↓] theorem ifK_t {A B : Prop} : ifK true A B = A := rfl
@[simp ↓] theorem ifK_f {A B : Prop} : ifK false A B = B := rfl
@[simp ↓] theorem ifK_d {p : Prop} [Decidable p] {A B : Prop} : ifK (decide p) A B = if p then A else B := by simp [ifK]
@[simp ↓] theorem ifK_not {b : Bool} {A B : Prop} : ifK (!b) A B = ifK b B A := by cases b <;> rfl
@[simp ↓] theorem ifK_isN {d : D} {A B : Prop} : ifK (isN d) A B = if isN d = true then A else B := rfl
def blK (d : D) (q : Bool → Prop) : Prop := match d with
  | .bl b => q b
  | _ => False
@[simp ↓] theorem blK_b {b : Bool} {q : Bool → Prop} : blK (.bl b) q = q b := rfl
@[simp ↓] theorem optK_s {α : Type} {a : α} {q : α → Prop} : optK (some a) q = q a := rfl
@[simp ↓] theorem optK_n {α : Type} {q : α → Prop} : optK (none : Option α) q = False := rfl
@[simp ↓] theorem intK_i {i j : Int} {q : Int → Int → Prop} : intK (.int i) (.int j) q = q i j := rfl
/-! expressions -/
@[simp ↓] theorem wVar_eq {i : Nat} : wVar i ρ P = slotK ρ i fun m d => P.ok [] (kAt i [] m.st, d) ρ := by
  unfold wVar slotK
  cases ρ[i]? with
  | none => rfl
  | some x => cases x <;> rfl
theorem okSlot_of : ∀ {ρ : Rho} {i : Nat} {m : Md} {d : D}, ρ[i]? = some (some (m, d)) → notP m = true → okSlot ρ i = true
  | [], _, _, _, e, _ => by simp at e
  | x :: _, 0, m, d, e, h => by
    simp at e
    subst e
    cases m <;> first | rfl | cases h
  | _ :: ρ, i + 1, m, d, e, h => okSlot_of (ρ := ρ) (by simpa using e) h
@[simp ↓] theorem wFrz_eq {i : Nat} : wFrz i ρ P = slotK ρ i fun m d => notP m = true ∧ stK i (.F, d) ρ fun ρ' => P.ok [i] (.fz, d) ρ' := by
  unfold wFrz slotK
  cases e : ρ[i]? with
  | none => rfl
  | some x =>
    cases x with
    | none => rfl
    | some md =>
      obtain ⟨m, d⟩ := md
      exact propext ⟨fun h => ⟨h.1, okSlot_of e h.1, h.2⟩, fun h => ⟨h.1, h.2.2⟩⟩
@[simp ↓] theorem wMov_eq {i : Nat} : wMov i ρ P = slotK ρ i fun m d => notP m = true ∧ P.ok [i] (.new m, d) (ρ.set i none) := by
  unfold wMov slotK
  cases ρ[i]? with
  | none => rfl
  | some x => cases x <;> rfl
@[simp ↓] theorem wC_eq {d : D} : wC d ρ P = P.ok [] (.fz, d) ρ := rfl
@[simp ↓] theorem wOp_eq {o : O2} {a b : DE (Kd × D)} : wOp o a b ρ P = a ρ ⟨fun p1 x ρ1 => b ρ1 ⟨fun p2 y ρ2 => hold x.1 p2 = true ∧ o x y fun z => P.ok (p1 ++ p2) z ρ2, P.ex⟩, P.ex⟩ := rfl
@[simp ↓] theorem wUn_eq {o : O1} {a : DE (Kd × D)} : wUn o a ρ P = a ρ ⟨fun p1 x ρ1 => o x fun z => P.ok p1 z ρ1, P.ex⟩ := rfl
@[simp ↓] theorem wCB_eq {o : OL} {a : DE (List (Kd × D))} : wCB o a ρ P = a ρ ⟨fun p1 x ρ1 => o x fun z => P.ok p1 z ρ1, P.ex⟩ := rfl
@[simp ↓] theorem wFz_eq {w : DE (Kd × D)} : wFz w ρ P = w ρ ⟨fun p x ρ' => P.ok p (x.1.frz, x.2) ρ', P.ex⟩ := rfl
@[simp ↓] theorem wNil_eq : wNil ρ PA' = PA'.ok [] [] ρ := rfl
@[simp ↓] theorem wCons_eq {a : DE (Kd × D)} {r : DE (List (Kd × D))} : wCons a r ρ PA' = a ρ ⟨fun p1 x ρ1 => r ρ1 ⟨fun p2 xs ρ2 => hold x.1.frz p2 = true ∧ PA'.ok (p1 ++ p2) ((x.1.frz, x.2) :: xs) ρ2, PA'.ex⟩, PA'.ex⟩ := rfl
@[simp ↓] theorem wTup_eq {a : DE (List (Kd × D))} : wTup a ρ P = a ρ ⟨fun p xs ρ' => (allFz xs = true ∧ small xs.length = true) ∧ P.ok p (.fz, .tup (xs.map (·.2))) ρ', P.ex⟩ := rfl
@[simp ↓] theorem wLst_eq {a : DE (List (Kd × D))} : wLst a ρ P = a ρ ⟨fun p xs ρ' => (allFz xs = true ∧ small xs.length = true) ∧ P.ok p (.new (.L .F), .lst (xs.map (·.2))) ρ', P.ex⟩ := rfl
@[simp ↓] theorem wDic_eq : wDic ρ P = P.ok [] (.new .K, .dct []) ρ := rfl
@[simp ↓] theorem wT_eq {w : DE (Kd × D)} : wT w ρ PB = w ρ ⟨fun p x ρ' => blK x.2 fun b => PB.ok p b ρ', PB.ex⟩ := by
  unfold wT
  congr 2
@[simp ↓] theorem wAnd_eq {a b : DE Bool} : wAnd a b ρ PB = a ρ ⟨fun p1 c ρ1 => ifK c (b ρ1 ⟨fun p2 c2 ρ2 => PB.ok (p1 ++ p2) c2 ρ2, PB.ex⟩) (PB.ok p1 false ρ1), PB.ex⟩ := by
  unfold wAnd
  congr 2
  funext p c ρ'
  cases c <;> rfl
@[simp ↓] theorem wOr_eq {a b : DE Bool} : wOr a b ρ PB = a ρ ⟨fun p1 c ρ1 => ifK c (PB.ok p1 true ρ1) (b ρ1 ⟨fun p2 c2 ρ2 => PB.ok (p1 ++ p2) c2 ρ2, PB.ex⟩), PB.ex⟩ := by
  unfold wOr
  congr 2
  funext p c ρ'
  cases c <;> rfl
@[simp ↓] theorem wNot_eq {a : DE Bool} : wNot a ρ PB = a ρ ⟨fun p1 c ρ1 => PB.ok p1 (!c) ρ1, PB.ex⟩ := rfl
@[simp ↓] theorem wAndV_eq {a b : DE (Kd × D)} : wAndV a b ρ P = a ρ ⟨fun p1 x ρ1 => blK x.2 fun c => ifK c (b ρ1 ⟨fun p2 c2 ρ2 => P.ok (p1 ++ p2) c2 ρ2, P.ex⟩) (P.ok p1 (.fz, .bl false) ρ1), P.ex⟩ := by
  unfold wAndV
  congr 2
  funext p x ρ'
  obtain ⟨k, d⟩ := x
  cases d with
  | bl b => cases b <;> rfl
  | _ => rfl
@[simp ↓] theorem wOrV_eq {a b : DE (Kd × D)} : wOrV a b ρ P = a ρ ⟨fun p1 x ρ1 => blK x.2 fun c => ifK c (P.ok p1 (.fz, .bl true) ρ1) (b ρ1 ⟨fun p2 c2 ρ2 => P.ok (p1 ++ p2) c2 ρ2, P.ex⟩), P.ex⟩ := by
  unfold wOrV
  congr 2
  funext p x ρ'
  obtain ⟨k, d⟩ := x
  cases d with
  | bl b => cases b <;> rfl
  | _ => rfl
@[simp ↓] theorem wNotV_eq {a : DE (Kd × D)} : wNotV a ρ P = a ρ ⟨fun p1 x ρ1 => blK x.2 fun c => P.ok p1 (.fz, .bl (!c)) ρ1, P.ex⟩ := by
  unfold wNotV
  congr 2
@[simp ↓] theorem wIf_eq {t : DE Bool} {a b : DE (Kd × D)} : wIf t a b ρ P = t ρ ⟨fun p1 c ρ1 => ifK c (a ρ1 ⟨fun p2 x ρ2 => P.ok (p1 ++ p2) x ρ2, P.ex⟩) (b ρ1 ⟨fun p2 x ρ2 => P.ok (p1 ++ p2) x ρ2, P.ex⟩), P.ex⟩ := by
  unfold wIf
  congr 2
  funext p c ρ'
  cases c <;> rfl
@[simp ↓] theorem wChain_eq {o o' : O2} {a b c : DE (Kd × D)} : wChain o o' a b c ρ P = a ρ ⟨fun p1 x ρ1 => b ρ1 ⟨fun p2 y ρ2 => hold x.1 p2 = true ∧ o x y fun z => blK z.2 fun t => ifK t (c ρ2 ⟨fun p3 u ρ3 => hold y.1 p3 = true ∧ o' y u fun z => P.ok (p1 ++ p2 ++ p3) z ρ3, P.ex⟩) (P.ok (p1 ++ p2) (.fz, .bl false) ρ2), P.ex⟩, P.ex⟩ := by
  unfold wChain
  congr 2
  funext p x ρ'
  congr 2
  funext p' y ρ''
  congr 2
  funext z
  obtain ⟨k, d⟩ := z
  cases d with
  | bl b => cases b <;> rfl
  | _ => rfl
@[simp ↓] theorem wYes_eq : wYes ρ PB = PB.ok [] true ρ := rfl
/-! statements -/
@[simp ↓] theorem wNext_eq : wNext E ρ = E.nx ρ := rfl
@[simp ↓] theorem wSeq_eq {a b : DS} : wSeq a b E ρ = a { E with nx := b E } ρ := rfl
@[simp ↓] theorem wBreak_eq : wBreak E ρ = E.bk ρ := rfl
@[simp ↓] theorem wCont_eq : wCont E ρ = E.ct ρ := rfl
@[simp ↓] theorem wDrop_eq {we : DE (Kd × D)} : wDrop we E ρ = we ρ ⟨fun _ _ ρ' => E.nx ρ', E.ex⟩ := rfl
@[simp ↓] theorem wRet_eq {we : DE (Kd × D)} : wRet we E ρ = we ρ ⟨fun _ x ρ' => E.rt x ρ', E.ex⟩ := rfl
@[simp ↓] theorem wRetN_eq : wRetN E ρ = E.rt (.fz, .non) ρ := rfl
@[simp ↓] theorem wIfS_eq {c : DE Bool} {a b : DS} : wIfS c a b E ρ = c ρ ⟨fun _ k ρ' => ifK k (a E ρ') (b E ρ'), E.ex⟩ := by
  unfold wIfS
  congr 2
  funext p k ρ'
  cases k <;> rfl
@[simp ↓] theorem wNever_eq : wNever E ρ = False := rfl
def storeK (i : Nat) (x : Kd × D) (ρ : Rho) (q : Rho → Prop) : Prop := match x.1 with
  | .fz => stK i (.F, x.2) ρ q
  | .new m => notP m = true ∧ stK i (m, x.2) ρ q
  | .bor _ _ _ => False
@[simp ↓] theorem storeK_fz {i : Nat} {d : D} {q : Rho → Prop} : storeK i (.fz, d) ρ q = stK i (.F, d) ρ q := rfl
@[simp ↓] theorem storeK_L {i : Nat} {m : Md} {d : D} {q : Rho → Prop} : storeK i (.new (.L m), d) ρ q = stK i (.L m, d) ρ q := by simp [storeK, notP]
@[simp ↓] theorem storeK_K {i : Nat} {d : D} {q : Rho → Prop} : storeK i (.new .K, d) ρ q = stK i (.K, d) ρ q := by simp [storeK, notP]
@[simp ↓] theorem storeK_O {i : Nat} {ms : List Md} {d : D} {q : Rho → Prop} : storeK i (.new (.O ms), d) ρ q = stK i (.O ms, d) ρ q := by simp [storeK, notP]
@[simp ↓] theorem storeK_F {i : Nat} {d : D} {q : Rho → Prop} : storeK i (.new .F, d) ρ q = stK i (.F, d) ρ q := by simp [storeK, notP]
@[simp ↓] theorem wSet_eq {i : Nat} {we : DE (Kd × D)} : wSet i we E ρ = we ρ ⟨fun _ x ρ' => storeK i x ρ' E.nx, E.ex⟩ := by
  unfold wSet
  congr 2
  funext p x ρ'
  obtain ⟨k, d⟩ := x
  cases k with
  | fz => rfl
  | bor j q m => simp [putK, storeK]
  | new m => simp only [putK, storeK, stK, eq_iff_iff]; exact ⟨fun ⟨a, b, c⟩ => ⟨b, a, c⟩, fun ⟨b, a, c⟩ => ⟨a, b, c⟩⟩
@[simp ↓] theorem wAug_eq {i : Nat} {o : O2} {we : DE (Kd × D)} : wAug i o we E ρ = wSet i (wOp o (wVar i) we) E ρ := rfl
@[simp ↓] theorem wgN_eq {i : Nat} {d : D} {q : Rho → Prop} : wgN i d ρ q = stK i (.F, d) ρ q := rfl
@[simp ↓] theorem wgNil_eq {q : Rho → Prop} : wgNil [] ρ q = q ρ := rfl
@[simp ↓] theorem wgCons_eq {a : DG} {b : DGs} {d : D} {ds : List D} {q : Rho → Prop} : wgCons a b (d :: ds) ρ q = a d ρ fun ρ' => b ds ρ' q := rfl
@[simp ↓] theorem wgTup_eq {n : Nat} {a : DGs} {ds : List D} {q : Rho → Prop} : wgTup n a (.tup ds) ρ q = (ds.length = n ∧ a ds ρ q) := rfl
def fzK (x : Kd × D) (q : D → Prop) : Prop := match x.1 with
  | .fz => q x.2
  | _ => False
@[simp ↓] theorem fzK_f {d : D} {q : D → Prop} : fzK (.fz, d) q = q d := rfl
@[simp ↓] theorem wAsg_eq {we : DE (Kd × D)} {g : DG} : wAsg we g E ρ = we ρ ⟨fun _ x ρ' => fzK (x.1.frz, x.2) fun d => g d ρ' E.nx, E.ex⟩ := by
  unfold wAsg
  rw [wFz_eq]
  congr 2
@[simp ↓] theorem frz_f : Kd.frz .fz = .fz := rfl
@[simp ↓] theorem frz_n {m : Md} : Kd.frz (.new m) = .fz := rfl
@[simp ↓] theorem frz_b {i : Nat} {p : List Nat} {m : Md} : Kd.frz (.bor i p m) = .bor i p m := rfl
@[simp ↓] theorem kAt_F {i : Nat} {p : List Nat} : kAt i p .F = .fz := rfl
@[simp ↓] theorem kAt_L {i : Nat} {p : List Nat} {m : Md} : kAt i p (.L m) = .bor i p (.L m) := rfl
@[simp ↓] theorem kAt_K {i : Nat} {p : List Nat} : kAt i p .K = .bor i p .K := rfl
@[simp ↓] theorem kAt_O {i : Nat} {p : List Nat} {ms : List Md} : kAt i p (.O ms) = .bor i p (.O ms) := rfl
@[simp ↓] theorem st_P {m : Md} : Md.st (.P m) = m.st := rfl
@[simp ↓] theorem st_F : Md.st .F = .F := rfl
@[simp ↓] theorem st_L {m : Md} : Md.st (.L m) = .L m := rfl
@[simp ↓] theorem st_K : Md.st .K = .K := rfl
@[simp ↓] theorem st_O {ms : List Md} : Md.st (.O ms) = .O ms := rfl
@[simp ↓] theorem notP_F : notP .F = true := rfl
@[simp ↓] theorem notP_L {m : Md} : notP (.L m) = true := rfl
@[simp ↓] theorem notP_K : notP .K = true := rfl
@[simp ↓] theorem notP_O {ms : List Md} : notP (.O ms) = true := rfl
@[simp ↓] theorem hold_f {p : List Nat} : hold .fz p = true := rfl
@[simp ↓] theorem hold_n {m : Md} {p : List Nat} : hold (.new m) p = true := rfl
@[simp ↓] theorem hold_b {i : Nat} {q p : List Nat} {m : Md} : (hold (.bor i q m) p = true) = (p.contains i = false) := by simp [hold]
@[simp ↓] theorem allFz_nil : allFz [] = true := rfl
@[simp ↓] theorem allFz_c {d : D} {r : List (Kd × D)} : allFz ((.fz, d) :: r) = allFz r := rfl
@[simp ↓] theorem retK_f : retK .fz = true := rfl
@[simp ↓] theorem retK_n {m : Md} : retK (.new m) = true := rfl
/-! the end of a def -/
@[simp ↓] theorem ends_nx {ms : List Md} {ds : List D} {F : Pf} {ρ : Rho} : (endsOf ms ds F).nx ρ = finK ms ds ρ fun ds' => F.ok (.fz, .non) ds' := rfl
@[simp ↓] theorem ends_rt {ms : List Md} {ds : List D} {F : Pf} {x : Kd × D} {ρ : Rho} : (endsOf ms ds F).rt x ρ = (retK x.1 = true ∧ finK ms ds ρ fun ds' => F.ok x ds') := rfl
@[simp ↓] theorem ends_ex {ms : List Md} {ds : List D} {F : Pf} {C : Addr} {fl : List (Str × D)} {ρ : Rho} : (endsOf ms ds F).ex C fl ρ = finK ms ds ρ fun ds' => F.ex C fl ds' := rfl
@[simp ↓] theorem finK_nil {ds : List D} {ρ : Rho} {q : List D → Prop} : finK [] ds ρ q = q [] := rfl
@[simp ↓] theorem finK_F {ms : List Md} {d : D} {ds : List D} {x : Option (Md × D)} {ρ : Rho} {q : List D → Prop} : finK (.F :: ms) (d :: ds) (x :: ρ) q = finK ms ds ρ fun r => q (d :: r) := by cases x <;> rfl
@[simp ↓] theorem finK_P {m m' : Md} {ms : List Md} {d d' : D} {ds : List D} {ρ : Rho} {q : List D → Prop} : finK (.P m :: ms) (d :: ds) (some (.P m', d') :: ρ) q = (m' = m ∧ finK ms ds ρ fun r => q (d' :: r)) := rfl
@[simp ↓] theorem zr_c {m : Md} {ms : List Md} {d : D} {ds : List D} : zr (m :: ms) (d :: ds) = some (m, d) :: zr ms ds := rfl
@[simp ↓] theorem zr_n {ds : List D} : zr [] ds = [] := by cases ds <;> rfl
/-! operations -/
@[simp ↓] theorem oI_eq {c : Int → Int → Prop} {g : Int → Int → Int} {x y : Kd × D} {q : Kd × D → Prop} : oI c g x y q = intK x.2 y.2 fun i j => c i j ∧ q (.fz, .int (g i j)) := rfl
@[simp ↓] theorem oI0_eq {g : Int → Int → Int} {x y : Kd × D} {q : Kd × D → Prop} : oI0 g x y q = intK x.2 y.2 fun i j => q (.fz, .int (g i j)) := rfl
@[simp ↓] theorem oB0_eq {g : Int → Int → Bool} {x y : Kd × D} {q : Kd × D → Prop} : oB0 g x y q = intK x.2 y.2 fun i j => q (.fz, .bl (g i j)) := rfl
@[simp ↓] theorem oEq_eq {x y : Kd × D} {q : Kd × D → Prop} : oEq x y q = eqK x.2 y.2 fun b => q (.fz, .bl b) := rfl
@[simp ↓] theorem oNe_eq {x y : Kd × D} {q : Kd × D → Prop} : oNe x y q = eqK x.2 y.2 fun b => q (.fz, .bl (!b)) := rfl
section
variable {q : Bool → Prop} {a b : Int} {s t : Str} {c e : Bool}
@[simp ↓] theorem eqK_1 : eqK (.int a) (.int b) q = q (decide (a = b)) := rfl
@[simp ↓] theorem eqK_2 : eqK (.str s) (.str t) q = q (decide (s = t)) := rfl
@[simp ↓] theorem eqK_3 : eqK (.bl c) (.bl e) q = q (decide (c = e)) := rfl
@[simp ↓] theorem eqK_4 : eqK .non .non q = q true := rfl
@[simp ↓] theorem eqK_5 : eqK .non (.int b) q = q false := rfl
@[simp ↓] theorem eqK_6 : eqK (.int a) .non q = q false := rfl
@[simp ↓] theorem eqK_7 : eqK .non (.str t) q = q false := rfl
@[simp ↓] theorem eqK_8 : eqK (.str t) .non q = q false := rfl
@[simp ↓] theorem eqK_9 : eqK (.int a) (.str t) q = q false := rfl
@[simp ↓] theorem eqK_10 : eqK (.str t) (.int a) q = q false := rfl
end
@[simp ↓] theorem oIsN_eq {x y : Kd × D} {q : Kd × D → Prop} : oIsN x y q = (isN y.2 = true ∧ q (.fz, .bl (isN x.2))) := rfl
@[simp ↓] theorem oNotN_eq {x y : Kd × D} {q : Kd × D → Prop} : oNotN x y q = (isN y.2 = true ∧ q (.fz, .bl (!isN x.2))) := rfl
@[simp ↓] theorem isN_n : isN .non = true := rfl
@[simp ↓] theorem isN_i {i : Int} : isN (.int i) = false := rfl
@[simp ↓] theorem isN_b {i : Bool} : isN (.bl i) = false := rfl
@[simp ↓] theorem isN_s {i : Str} : isN (.str i) = false := rfl
@[simp ↓] theorem isN_l {i : List D} : isN (.lst i) = false := rfl
@[simp ↓] theorem isN_t {i : List D} : isN (.tup i) = false := rfl
@[simp ↓] theorem isN_d {i : List (Key × D)} : isN (.dct i) = false := rfl
@[simp ↓] theorem isN_o {C : Addr} {fs : List (Str × D)} : isN (.obj C fs) = false := rfl
@[simp ↓] theorem oAdd_i {k k' : Kd} {a b : Int} {q : Kd × D → Prop} : oAdd (k, .int a) (k', .int b) q = q (.fz, .int (a + b)) := rfl
@[simp ↓] theorem oAdd_s {k k' : Kd} {a b : Str} {q : Kd × D → Prop} : oAdd (k, .str a) (k', .str b) q = (small (a.length + b.length) = true ∧ q (.fz, .str (a ++ b))) := rfl
@[simp ↓] theorem oAdd_t {a b : List D} {q : Kd × D → Prop} : oAdd (.fz, .tup a) (.fz, .tup b) q = (small (a.length + b.length) = true ∧ q (.fz, .tup (a ++ b))) := rfl
@[simp ↓] theorem oAdd_l {k k' : Kd} {a b : List D} {q : Kd × D → Prop} : oAdd (k, .lst a) (k', .lst b) q = lstK (k, .lst a) fun a => lstK (k', .lst b) fun b => small (a.length + b.length) = true ∧ q (.new (.L .F), .lst (a ++ b)) := rfl
@[simp ↓] theorem oMul_i {k k' : Kd} {a b : Int} {q : Kd × D → Prop} : oMul (k, .int a) (k', .int b) q = (CMul a b ∧ q (.fz, .int (a * b))) := rfl
@[simp ↓] theorem oMul_l {k k' : Kd} {a : List D} {n : Int} {q : Kd × D → Prop} : oMul (k, .lst a) (k', .int n) q = lstK (k, .lst a) fun ds => (0 ≤ n ∧ small (ds.length * n.toNat) = true ∧ n < 2 ^ 63) ∧ q (.new (.L .F), .lst (List.replicate n.toNat ds).flatten) := rfl
@[simp ↓] theorem lstK_f {a : List D} {q : List D → Prop} : lstK (.fz, .lst a) q = q a := rfl
@[simp ↓] theorem lstK_b {i : Nat} {p : List Nat} {a : List D} {q : List D → Prop} : lstK (.bor i p (.L .F), .lst a) q = q a := rfl
@[simp ↓] theorem lstK_n {a : List D} {q : List D → Prop} : lstK (.new (.L .F), .lst a) q = q a := rfl
@[simp ↓] theorem itmK_t {a : List D} {q : List D → Prop} : itmK (.fz, .tup a) q = q a := rfl
@[simp ↓] theorem itmK_l {k : Kd} {a : List D} {q : List D → Prop} : itmK (k, .lst a) q = lstK (k, .lst a) q := by cases k <;> rfl
@[simp ↓] theorem dctK_f {a : List (Key × D)} {q : List (Key × D) → Prop} : dctK (.fz, .dct a) q = q a := rfl
@[simp ↓] theorem dctK_b {i : Nat} {p : List Nat} {a : List (Key × D)} {q : List (Key × D) → Prop} : dctK (.bor i p .K, .dct a) q = q a := rfl
@[simp ↓] theorem dctK_n {a : List (Key × D)} {q : List (Key × D) → Prop} : dctK (.new .K, .dct a) q = q a := rfl
@[simp ↓] theorem seqK_l {a : List D} {q : List D → Prop} : seqK (.fz, .lst a) q = q a := rfl
@[simp ↓] theorem seqK_t {a : List D} {q : List D → Prop} : seqK (.fz, .tup a) q = q a := rfl
@[simp ↓] theorem oIx_l {k : Kd} {ds : List D} {i : Int} {q : Kd × D → Prop} : oIx (.fz, .lst ds) (k, .int i) q = optK (atI ds i) fun d => q (.fz, d) := rfl
@[simp ↓] theorem oIx_n {k : Kd} {ds : List D} {i : Int} {q : Kd × D → Prop} : oIx (.new (.L .F), .lst ds) (k, .int i) q = optK (atI ds i) fun d => q (.fz, d) := rfl
@[simp ↓] theorem oIx_b {k : Kd} {b : Nat} {p : List Nat} {m : Md} {ds : List D} {i : Int} {q : Kd × D → Prop} : oIx (.bor b p (.L m), .lst ds) (k, .int i) q = optK (ixN ds.length i) fun j => optK ds[j]? fun d => q (kAt b (p ++ [j]) m, d) := rfl
@[simp ↓] theorem oIx_t {k : Kd} {ds : List D} {i : Int} {q : Kd × D → Prop} : oIx (.fz, .tup ds) (k, .int i) q = optK (atI ds i) fun d => q (.fz, d) := rfl
@[simp ↓] theorem oIx_bt {k : Kd} {b : Nat} {p : List Nat} {ms : List Md} {ds : List D} {i : Int} {q : Kd × D → Prop} : oIx (.bor b p (.T ms), .tup ds) (k, .int i) q = optK (ixN ds.length i) fun j => optK ms[j]? fun m => optK ds[j]? fun d => q (kAt b (p ++ [j]) m, d) := rfl
@[simp ↓] theorem oIx_s {k k' : Kd} {z : Str} {i : Int} {q : Kd × D → Prop} : oIx (k', .str z) (k, .int i) q = (small z.length = true ∧ optK (atI z.cps.toList i) fun c => q (.fz, .str ⟨#[c]⟩)) := by
  cases k' with
  | fz => rfl
  | bor i p m => cases m <;> rfl
  | new m => cases m with
    | L m => cases m <;> rfl
    | _ => rfl
@[simp ↓] theorem oIx_r {k : Kd} {ns : List Int} {i : Int} {q : Kd × D → Prop} : oIx (.fz, .scr ns) (k, .int i) q = optK (atI ns i) fun n => q (.fz, .int n) := rfl
@[simp ↓] theorem oIx_df {es : List (Key × D)} {y : Kd × D} {q : Kd × D → Prop} : oIx (.fz, .dct es) y q = optK (keyOf y.2) fun k => optK (valD es k) fun d => q (.fz, d) := by
  obtain ⟨k, d⟩ := y
  cases d <;> rfl
@[simp ↓] theorem oIx_db {i : Nat} {p : List Nat} {es : List (Key × D)} {y : Kd × D} {q : Kd × D → Prop} : oIx (.bor i p .K, .dct es) y q = optK (keyOf y.2) fun k => optK (valD es k) fun d => q (.fz, d) := by
  obtain ⟨k, d⟩ := y
  cases d <;> rfl
@[simp ↓] theorem keyOf_i {i : Int} : keyOf (.int i) = some (.inl i) := rfl
@[simp ↓] theorem keyOf_s {i : Str} : keyOf (.str i) = some (.inr i) := rfl
@[simp ↓] theorem one1_c {x : Kd × D} {q : Kd × D → Prop} : one1 [x] q = q x := rfl
@[simp ↓] theorem two2_c {x y : Kd × D} {q : Kd × D → Kd × D → Prop} : two2 [x, y] q = q x y := rfl
@[simp ↓] theorem oLen_eq {xs : List (Kd × D)} {q : Kd × D → Prop} : oLen xs q = one1 xs fun x => optK (lenD x.2) fun n => q (.fz, .int n) := rfl
@[simp ↓] theorem lenD_l {ds : List D} : lenD (.lst ds) = some ds.length := rfl
@[simp ↓] theorem lenD_t {ds : List D} : lenD (.tup ds) = some ds.length := rfl
@[simp ↓] theorem lenD_d {ds : List (Key × D)} : lenD (.dct ds) = some ds.length := rfl
@[simp ↓] theorem lenD_r {ds : List Int} : lenD (.scr ds) = some ds.length := rfl
@[simp ↓] theorem lenD_s {z : Str} (h : small z.length = true) : lenD (.str z) = some z.length := by simp [lenD, h]
@[simp ↓] theorem oList_d {k : Kd} {ds : List (Key × D)} {q : Kd × D → Prop} : oList [(k, .dct ds)] q = dctK (k, .dct ds) fun ds => q (.new (.L .F), .lst (ds.map fun kv => kD kv.1)) := rfl
@[simp ↓] theorem oList_l {k : Kd} {ds : List D} {q : Kd × D → Prop} : oList [(k, .lst ds)] q = lstK (k, .lst ds) fun ds => q (.new (.L .F), .lst ds) := by show itmK _ _ = _; rw [itmK_l]
@[simp ↓] theorem oList_t {ds : List D} {q : Kd × D → Prop} : oList [(.fz, .tup ds)] q = q (.new (.L .F), .lst ds) := rfl
@[simp ↓] theorem oTuple_eq {xs : List (Kd × D)} {q : Kd × D → Prop} : oTuple xs q = one1 xs fun x => itmK x fun ds => q (.fz, .tup ds) := rfl
@[simp ↓] theorem oDict_eq {xs : List (Kd × D)} {q : Kd × D → Prop} : oDict xs q = one1 xs fun x => dctK x fun ds => q (.new .K, .dct ds) := rfl
@[simp ↓] theorem oSorted_eq {xs : List (Kd × D)} {q : Kd × D → Prop} : oSorted xs q = one1 xs fun x => lstK x fun ds => optK (intsOf ds) fun ns => ∀ ns' : List Int, ns'.Perm ns → ns'.Pairwise (· ≤ ·) → q (.new (.L .F), .lst (ns'.map .int)) := rfl
@[simp ↓] theorem oAll_eq {xs : List (Kd × D)} {q : Kd × D → Prop} : oAll xs q = one1 xs fun x => lstK x fun ds => optK (blsOf ds) fun bs => q (.fz, .bl (bs.all id)) := rfl
@[simp ↓] theorem oMax2_eq {xs : List (Kd × D)} {q : Kd × D → Prop} : oMax2 xs q = two2 xs fun x y => intK x.2 y.2 fun i j => q (.fz, .int (if j > i then j else i)) := rfl
@[simp ↓] theorem oMin2_eq {xs : List (Kd × D)} {q : Kd × D → Prop} : oMin2 xs q = two2 xs fun x y => intK x.2 y.2 fun i j => q (.fz, .int (if j < i then j else i)) := rfl
@[simp ↓] theorem oInt_i {k : Kd} {i : Int} {q : Kd × D → Prop} : oInt [(k, .int i)] q = q (.fz, .int i) := rfl
@[simp ↓] theorem oInt_b {k : Kd} {b : Bool} {q : Kd × D → Prop} : oInt [(k, .bl b)] q = q (.fz, .int (if b then 1 else 0)) := rfl
@[simp ↓] theorem tyN_1 : tyN .non = some "NoneType" := rfl
@[simp ↓] theorem tyN_2 {b : Bool} : tyN (.bl b) = some "bool" := rfl
@[simp ↓] theorem tyN_3 {b : Int} : tyN (.int b) = some "int" := rfl
@[simp ↓] theorem tyN_4 {b : Str} : tyN (.str b) = some "str" := rfl
@[simp ↓] theorem tyN_5 {b : List D} : tyN (.lst b) = some "list" := rfl
@[simp ↓] theorem tyN_6 {b : List D} : tyN (.tup b) = some "tuple" := rfl
@[simp ↓] theorem tyN_7 {b : List (Key × D)} : tyN (.dct b) = some "dict" := rfl
@[simp ↓] theorem wSl_eq {we : DE (Kd × D)} {wl wh : DE (Option Int)} : wSl we wl wh ρ P = we ρ ⟨fun p1 x ρ1 => wl ρ1 ⟨fun p2 lo ρ2 => wh ρ2 ⟨fun p3 hi ρ3 => hold x.1 (p2 ++ p3) = true ∧ oSl x lo hi fun z => P.ok (p1 ++ (p2 ++ p3)) z ρ3, P.ex⟩, P.ex⟩, P.ex⟩ := rfl
@[simp ↓] theorem wNo_eq : wNo ρ PO' = PO'.ok [] none ρ := rfl
def intK1 (d : D) (q : Int → Prop) : Prop := match d with
  | .int i => q i
  | _ => False
@[simp ↓] theorem intK1_i {i : Int} {q : Int → Prop} : intK1 (.int i) q = q i := rfl
@[simp ↓] theorem wSo_eq {we : DE (Kd × D)} : wSo we ρ PO' = we ρ ⟨fun p x ρ' => intK1 x.2 fun i => PO'.ok p (some i) ρ', PO'.ex⟩ := by
  unfold wSo
  congr 2
@[simp ↓] theorem oSl_l {k : Kd} {ds : List D} {lo hi : Option Int} {q : Kd × D → Prop} : oSl (k, .lst ds) lo hi q = lstK (k, .lst ds) fun ds => q (.new (.L .F), .lst (cutD ds lo hi)) := rfl
@[simp ↓] theorem oSl_t {ds : List D} {lo hi : Option Int} {q : Kd × D → Prop} : oSl (.fz, .tup ds) lo hi q = q (.fz, .tup (cutD ds lo hi)) := rfl
@[simp ↓] theorem oSl_r {k : Kd} {ns : List Int} {lo hi : Option Int} {q : Kd × D → Prop} : oSl (k, .scr ns) lo hi q = q (.new (.L .F), .lst (cutD (ns.map .int) lo hi)) := rfl
@[simp ↓] theorem oIn_eq {x y : Kd × D} {q : Kd × D → Prop} : oIn x y q = seqInK x.2 y fun b => q (.fz, .bl b) := rfl
@[simp ↓] theorem oNotIn_eq {x y : Kd × D} {q : Kd × D → Prop} : oNotIn x y q = seqInK x.2 y fun b => q (.fz, .bl (!b)) := rfl
@[simp ↓] theorem seqInK_l {x : D} {k : Kd} {ds : List D} {q : Bool → Prop} : seqInK x (k, .lst ds) q = ((scD x = true ∧ ds.all scD = true) ∧ q (ds.any fun z => eqvD z x)) := rfl
@[simp ↓] theorem seqInK_t {x : D} {k : Kd} {ds : List D} {q : Bool → Prop} : seqInK x (k, .tup ds) q = ((scD x = true ∧ ds.all scD = true) ∧ q (ds.any fun z => eqvD z x)) := rfl
@[simp ↓] theorem seqInK_d {x : D} {k : Kd} {ds : List (Key × D)} {q : Bool → Prop} : seqInK x (k, .dct ds) q = optK (keyOf x) fun key => dctK (k, .dct ds) fun ds => q (valD ds key).isSome := rfl
/-! fields, methods -/
@[simp ↓] theorem wFld_eq {C : Addr} {f : Str} {j : Nat} {we : DE (Kd × D)} : wFld C f j we ρ P = we ρ ⟨fun p x ρ' => fldK C f j x fun z => P.ok p z ρ', P.ex⟩ := rfl
def nthK {α : Type} (xs : List α) (j : Nat) (q : α → Prop) : Prop := match xs, j with
  | [], _ => False
  | x :: _, 0 => q x
  | _ :: xs, j + 1 => nthK xs j q
theorem nthK_of {α : Type} : ∀ {xs : List α} {j : Nat} {q : α → Prop}, nthK xs j q = (match xs[j]? with | some x => q x | none => False)
  | [], _, _ => by simp [nthK]
  | _ :: _, 0, _ => rfl
  | _ :: xs, j + 1, q => by simp [nthK, nthK_of (xs := xs)]
@[simp ↓] theorem nthK_0 {α : Type} {x : α} {xs : List α} {q : α → Prop} : nthK (x :: xs) 0 q = q x := rfl
@[simp ↓] theorem nthK_s {α : Type} {x : α} {xs : List α} {j : Nat} {q : α → Prop} : nthK (x :: xs) (j + 1) q = nthK xs j q := rfl
@[simp ↓] theorem fldK_f {C C' : Addr} {f : Str} {j : Nat} {fs : List (Str × D)} {q : Kd × D → Prop} : fldK C f j (.fz, .obj C' fs) q = (C' = C ∧ nthK fs j fun kd => kd.1 = f ∧ q (.fz, kd.2)) := by
  rw [nthK_of]
  show (C' = C ∧ _) = _
  congr 1
  cases fs[j]? <;> rfl
@[simp ↓] theorem fldK_b {C C' : Addr} {f : Str} {j i : Nat} {p : List Nat} {ms : List Md} {fs : List (Str × D)} {q : Kd × D → Prop} : fldK C f j (.bor i p (.O ms), .obj C' fs) q = (C' = C ∧ nthK fs j fun kd => nthK ms j fun m => kd.1 = f ∧ q (kAt i (p ++ [j]) m, kd.2)) := by
  rw [nthK_of]
  show (C' = C ∧ _) = _
  congr 1
  cases fs[j]? with
  | none => rfl
  | some x =>
    show _ = nthK ms j _
    rw [nthK_of]
    cases ms[j]? <;> rfl
@[simp ↓] theorem wPutF_eq {i : Nat} {C : Addr} {f : Str} {j : Nat} {we : DE (Kd × D)} : wPutF i C f j we E ρ = we ρ ⟨fun _ x ρ' => putFldK i C f j x ρ' E.nx, E.ex⟩ := rfl
@[simp ↓] theorem wMut_eq {o : OM} {wr : DE (Kd × D)} {wa : DE (List (Kd × D))} : wMut o wr wa ρ P = wr ρ ⟨fun p1 x ρ1 => isL x.2 = true ∧ wa ρ1 ⟨fun p2 es ρ2 => hold x.1 p2 = true ∧ mutK o x es fun i p d' z => P.ok (p1 ++ (p2 ++ [i])) (.fz, z) (setAt ρ2 i p d'), P.ex⟩, P.ex⟩ := rfl
@[simp ↓] theorem isL_l {ds : List D} : isL (.lst ds) = true := rfl
@[simp ↓] theorem mutK_l {o : OM} {i : Nat} {p : List Nat} {ds : List D} {es : List (Kd × D)} {q : Nat → List Nat → D → D → Prop} : mutK o (.bor i p (.L .F), .lst ds) es q = (allFz es = true ∧ o ds (es.map (·.2)) fun ds' z => q i p (.lst ds') z) := rfl
@[simp ↓] theorem mApp_eq {ds : List D} {x : D} {q : List D → D → Prop} : mApp ds [x] q = (small (ds.length + 1) = true ∧ q (ds ++ [x]) .non) := rfl
@[simp ↓] theorem mExt_eq {ds xs : List D} {q : List D → D → Prop} : mExt ds [.lst xs] q = (small (ds.length + xs.length) = true ∧ q (ds ++ xs) .non) := rfl
@[simp ↓] theorem mClear_eq {ds : List D} {q : List D → D → Prop} : mClear ds [] q = q [] .non := rfl
@[simp ↓] theorem mRev_eq {ds : List D} {q : List D → D → Prop} : mRev ds [] q = q ds.reverse .non := rfl
@[simp ↓] theorem setAt_0 {m : Md} {d0 d : D} {ρ : Rho} {p : List Nat} : setAt (some (m, d0) :: ρ) 0 p d = some (m, dSet d0 p d) :: ρ := rfl
@[simp ↓] theorem setAt_s {x : Option (Md × D)} {d : D} {ρ : Rho} {i : Nat} {p : List Nat} : setAt (x :: ρ) (i + 1) p d = x :: setAt ρ i p d := by
  unfold setAt
  rw [List.getElem?_cons_succ]
  cases ρ[i]? with
  | none => rfl
  | some y => cases y <;> rfl
@[simp ↓] theorem dSet_0 {d0 d : D} : dSet d0 [] d = d := by cases d0 <;> rfl
@[simp ↓] theorem wGet_eq {wr : DE (Kd × D)} {wa : DE (List (Kd × D))} : wGet wr wa ρ P = wr ρ ⟨fun p1 x ρ1 => isDct x.2 = true ∧ wa ρ1 ⟨fun p2 es ρ2 => hold x.1 p2 = true ∧ oGet x es fun z => P.ok (p1 ++ p2) z ρ2, P.ex⟩, P.ex⟩ := rfl
@[simp ↓] theorem isDct_d {ds : List (Key × D)} : isDct (.dct ds) = true := rfl
def getD' (o : Option D) (z : D) : D := match o with
  | some d => d
  | none => z
@[simp ↓] theorem oGet_2 {k : Kd} {ds : List (Key × D)} {y : Kd × D} {z : D} {q : Kd × D → Prop} : oGet (k, .dct ds) [y, (.fz, z)] q = optK (keyOf y.2) fun key => dctK (k, .dct ds) fun ds => q (.fz, getD' (valD ds key) z) := by
  show optK (keyOf y.2) _ = _
  congr 1
  funext key
  congr 1
  funext ds
  cases valD ds key <;> rfl
@[simp ↓] theorem oGet_1 {k : Kd} {ds : List (Key × D)} {y : Kd × D} {q : Kd × D → Prop} : oGet (k, .dct ds) [y] q = optK (keyOf y.2) fun key => dctK (k, .dct ds) fun ds => q (.fz, getD' (valD ds key) .non) := by
  show optK (keyOf y.2) _ = _
  congr 1
  funext key
  congr 1
  funext ds
  cases valD ds key <;> rfl
@[simp ↓] theorem wPopD_eq {wr : DE (Kd × D)} {wa : DE (List (Kd × D))} : wPopD wr wa ρ P = wr ρ ⟨fun p1 x ρ1 => isDct x.2 = true ∧ wa ρ1 ⟨fun p2 es ρ2 => hold x.1 p2 = true ∧ dPopK x es (fun i p d' z => P.ok (p1 ++ (p2 ++ [i])) (.fz, z) (setAt ρ2 i p d')) (fun z => P.ok (p1 ++ p2) (.fz, z) ρ2), P.ex⟩, P.ex⟩ := rfl
@[simp ↓] theorem dPopK_1 {i : Nat} {p : List Nat} {ds : List (Key × D)} {y : Kd × D} {q : Nat → List Nat → D → D → Prop} {q0 : D → Prop} : dPopK (.bor i p .K, .dct ds) [y] q q0 = optK (keyOf y.2) fun k => optK (valD ds k) fun d => q i p (.dct (dropKD ds k)) d := rfl
@[simp ↓] theorem dPopK_2 {i : Nat} {p : List Nat} {ds : List (Key × D)} {y : Kd × D} {z : D} {q : Nat → List Nat → D → D → Prop} {q0 : D → Prop} : dPopK (.bor i p .K, .dct ds) [y, (.fz, z)] q q0 = optK (keyOf y.2) fun k => (∀ d, valD ds k = some d → q i p (.dct (dropKD ds k)) d) ∧ (valD ds k = none → q0 z) := by
  show optK (keyOf y.2) _ = _
  congr 1
  funext k
  cases e : valD ds k with
  | some d => simp
  | none => simp
@[simp ↓] theorem wSub_eq {wv wr wi : DE (Kd × D)} : wSub wv wr wi E ρ = wv ρ ⟨fun _ x ρ1 => x.1.frz.md = some .F ∧ wr ρ1 ⟨fun _ r ρ2 => wi ρ2 ⟨fun p3 y ρ3 => hold r.1 p3 = true ∧ subK r y x.2 fun i p d' => E.nx (setAt ρ3 i p d'), E.ex⟩, E.ex⟩, E.ex⟩ := rfl
@[simp ↓] theorem md_f : Kd.md .fz = some .F := rfl
@[simp ↓] theorem md_n {m : Md} : Kd.md (.new m) = some m := rfl
@[simp ↓] theorem subK_l {k : Kd} {i : Nat} {p : List Nat} {ds : List D} {j : Int} {v : D} {q : Nat → List Nat → D → Prop} : subK (.bor i p (.L .F), .lst ds) (k, .int j) v q = optK (ixN ds.length j) fun j => q i p (.lst (ds.set j v)) := rfl
@[simp ↓] theorem subK_d {i : Nat} {p : List Nat} {ds : List (Key × D)} {y : Kd × D} {v : D} {q : Nat → List Nat → D → Prop} : subK (.bor i p .K, .dct ds) y v q = optK (keyOf y.2) fun k => small (ds.length + 1) = true ∧ q i p (.dct (putKD ds k v)) := by
  obtain ⟨k, d⟩ := y
  cases d <;> rfl
@[simp ↓] theorem wMeth_eq {C : Addr} {m : Str} {ms : List Md} {Wf : DF} {dfl : List D} {wr : DE (Kd × D)} {wa : DE (List (Kd × D))} : wMeth C m ms Wf dfl wr wa ρ P = wr ρ ⟨fun p1 x ρ1 => objOk C m x.2 ∧ wa ρ1 ⟨fun p2 xs ρ2 => hold x.1 p2 = true ∧ callK ms Wf (p1 ++ p2) (x :: (xs ++ dfl.map fun d => (.fz, d))) ρ2 P, P.ex⟩, P.ex⟩ := rfl
@[simp ↓] theorem objOk_o {C C' : Addr} {m : Str} {fs : List (Str × D)} : objOk C m (.obj C' fs) = (C' = C ∧ (fs.map (·.1)).contains m = false) := rfl
@[simp ↓] theorem wCall_eq {ms : List Md} {Wf : DF} {dfl : List D} {wa : DE (List (Kd × D))} : wCall ms Wf dfl wa ρ P = wa ρ ⟨fun p xs ρ1 => callK ms Wf p (xs ++ dfl.map fun d => (.fz, d)) ρ1 P, P.ex⟩ := rfl
@[simp ↓] theorem wCallB_eq {n : Nat} {Wf : DF} {dfl : List D} {wa : DE (List (Kd × D))} : wCallB n Wf dfl wa ρ P = wa ρ ⟨fun p xs ρ1 => xs.length + dfl.length = n ∧ Wf (xs.map (·.2) ++ dfl) ⟨fun z _ => scD z.2 = true ∧ P.ok p (.fz, z.2) ρ1, fun C fl _ => fl = [] ∧ P.ex C [] ρ1⟩, P.ex⟩ := rfl
@[simp ↓] theorem wMake_eq {C : Addr} {n : Nat} {fm : List Md} {Wf : DF} {dfl : List D} {wa : DE (List (Kd × D))} : wMake C n fm Wf dfl wa ρ P = wa ρ ⟨fun p xs ρ1 => (allFz xs = true ∧ xs.length + dfl.length = n) ∧ Wf (.obj C [] :: (xs.map (·.2) ++ dfl)) ⟨fun z ds' => isN z.2 = true ∧ headK ds' fun d => P.ok p (.new (.O fm), d) ρ1, fun C fl _ => P.ex C fl ρ1⟩, P.ex⟩ := rfl
@[simp ↓] theorem headK_c {d : D} {ds : List D} {q : D → Prop} : headK (d :: ds) q = q d := rfl
@[simp ↓] theorem callK_eq {ms : List Md} {Wf : DF} {p : List Nat} {xs : List (Kd × D)} : callK ms Wf p xs ρ P = ((argsOk ms xs ∧ nodupB (borS xs) = true) ∧ Wf (xs.map (·.2)) ⟨fun z ds' => P.ok (p ++ borS xs) z (putBack xs ds' ρ), fun C fl ds' => P.ex C fl (putBack xs ds' ρ)⟩) := rfl
@[simp ↓] theorem argsOk_n : argsOk [] [] = True := rfl
@[simp ↓] theorem argsOk_F {ms : List Md} {d : D} {xs : List (Kd × D)} : argsOk (.F :: ms) ((.fz, d) :: xs) = argsOk ms xs := rfl
@[simp ↓] theorem argsOk_P {m m' : Md} {ms : List Md} {i : Nat} {p : List Nat} {d : D} {xs : List (Kd × D)} : argsOk (.P m :: ms) ((.bor i p m', d) :: xs) = (m' = m ∧ argsOk ms xs) := rfl
@[simp ↓] theorem borS_n : borS [] = [] := rfl
@[simp ↓] theorem borS_f {d : D} {xs : List (Kd × D)} : borS ((.fz, d) :: xs) = borS xs := rfl
@[simp ↓] theorem borS_b {i : Nat} {p : List Nat} {m : Md} {d : D} {xs : List (Kd × D)} : borS ((.bor i p m, d) :: xs) = i :: borS xs := rfl
@[simp ↓] theorem putBack_n {ds : List D} : putBack [] ds ρ = ρ := by cases ds <;> rfl
@[simp ↓] theorem putBack_f {d d' : D} {ds : List D} {xs : List (Kd × D)} : putBack ((.fz, d) :: xs) (d' :: ds) ρ = putBack xs ds ρ := rfl
@[simp ↓] theorem putBack_b {i : Nat} {p : List Nat} {m : Md} {d d' : D} {ds : List D} {xs : List (Kd × D)} : putBack ((.bor i p m, d) :: xs) (d' :: ds) ρ = putBack xs ds (setAt ρ i p d') := rfl
/-! loops -/
@[simp ↓] theorem wIt_eq {we : DE (Kd × D)} : wIt we ρ PL = we ρ ⟨fun p x ρ' => seqK (x.1.frz, x.2) fun ds => PL.ok p ds ρ', PL.ex⟩ := rfl
@[simp ↓] theorem wRev_eq {we : DE (Kd × D)} : wRev we ρ PL = we ρ ⟨fun p x ρ' => seqK (x.1.frz, x.2) fun ds => PL.ok p ds.reverse ρ', PL.ex⟩ := rfl
@[simp ↓] theorem wRng1_eq {wa : DE (List (Kd × D))} : wRng1 wa ρ PL = wa ρ ⟨fun p xs ρ' => rng1 xs fun ds => PL.ok p ds ρ', PL.ex⟩ := rfl
@[simp ↓] theorem wRng2_eq {wa : DE (List (Kd × D))} : wRng2 wa ρ PL = wa ρ ⟨fun p xs ρ' => rng2 xs fun ds => PL.ok p ds ρ', PL.ex⟩ := rfl
@[simp ↓] theorem rng1_c {k : Kd} {j : Int} {q : List D → Prop} : rng1 [(k, .int j)] q = (inR j ∧ q (rangeD 0 j.toNat)) := rfl
@[simp ↓] theorem rng2_c {k k' : Kd} {i j : Int} {q : List D → Prop} : rng2 [(k, .int i), (k', .int j)] q = ((inR i ∧ inR j) ∧ q (rangeD i (j - i).toNat)) := rfl
@[simp ↓] theorem wEnum_eq {wa : DE (List (Kd × D))} : wEnum wa ρ PL = wa ρ ⟨fun p xs ρ' => isL1 xs fun ds => PL.ok p (enumD ds) ρ', PL.ex⟩ := rfl
@[simp ↓] theorem wZip_eq {wa : DE (List (Kd × D))} : wZip wa ρ PL = wa ρ ⟨fun p xs ρ' => isL2 xs fun ds es => PL.ok p (zipD ds es) ρ', PL.ex⟩ := rfl
@[simp ↓] theorem isL1_c {ds : List D} {q : List D → Prop} : isL1 [(.fz, .lst ds)] q = q ds := rfl
@[simp ↓] theorem isL2_c {ds es : List D} {q : List D → List D → Prop} : isL2 [(.fz, .lst ds), (.fz, .lst es)] q = q ds es := rfl
@[simp ↓] theorem isL2_t {ds es : List D} {q : List D → List D → Prop} : isL2 [(.fz, .tup ds), (.fz, .tup es)] q = q ds es := rfl
end
def forK (ds : List D) (g : DG) (b : DS) (E : En) (ρ : Rho) : Prop := ∃ I : Nat → Rho → Prop, I 0 ρ ∧ (∀ i d ρ2, ds[i]? = some d → I i ρ2 → g d ρ2 fun ρ3 => b { E with nx := I (i + 1), ct := I (i + 1), bk := E.nx } ρ3) ∧ (∀ ρ2, I ds.length ρ2 → E.nx ρ2)
@[simp ↓] theorem wFor_eq {w : DE (List D)} {g : DG} {b : DS} {E : En} {ρ : Rho} : wFor w g b E ρ = w ρ ⟨fun _ ds ρ1 => forK ds g b E ρ1, E.ex⟩ := rfl
@[simp ↓] theorem forK_nil {g : DG} {b : DS} {E : En} {ρ : Rho} : forK [] g b E ρ = E.nx ρ := propext ⟨fun ⟨I, h0, _, he⟩ => he ρ h0, fun h => ⟨fun _ r => r = ρ, rfl, fun i d ρ2 h => by simp at h, fun ρ2 e => e ▸ h⟩⟩
end VL

namespace VL
open PySem PySem.Spec PyProof.Rows L2
section
variable {K : PySem.W.Frag} {W : WX} {G G' H H' H0 : Hp} {σ : L2.St} {X : Cx} {S S0 S1 T T1 T2 U : Sta} {E : En} {Z : Ends}
/-! ### what was missing -/
def oNeg : O1 := fun x q => intK1 x.2 fun i => q (.fz, .int (-i))
@[simp ↓] theorem oNeg_eq {x : Kd × D} {q : Kd × D → Prop} : oNeg x q = intK1 x.2 fun i => q (.fz, .int (-i)) := rfl
section
variable {elt tg iter : Expr} {ifs : List Expr} {scope : Scope} {own : List (Str × Nat)} {pos : Pos} {wi : DE (List D)} {g : DG} {t : DE Bool} {we : DE (Kd × D)}
/-- y = [..] on one line, frozen -/
theorem q_setLcF (q : List Nat) {i : Nat} {y : Str} {py spos : Pos} (hc : X.calm = true) (hN : X.N.Nodup) (hi : PI X tg iter (ti X.K W wi)) (ok : BlkOk X.N X.env.scope scope own)
    (hg : ∀ (s : Shared) (H : Hp) (C : Addr) (cl : List (Str × Addr)) (fp : List Addr), PG (X.blk s H scope (compEnvC scope cl C X.env) fp) tg (VL.tg X.K (own.map (·.2)) g)) (ht : ∀ (s : Shared) (H : Hp) (C : Addr) (cl : List (Str × Addr)) (fp : List Addr), PTs (X.blk s H scope (compEnvC scope cl C X.env) fp) ifs (tt X.K (fun _ _ _ _ => False) t))
    (he : ∀ (s : Shared) (H : Hp) (C : Addr) (cl : List (Str × Addr)) (fp : List Addr), PE (X.blk s H scope (compEnvC scope cl C X.env) fp) elt (te X.K (fun _ _ _ _ => False) we)) (hs : ∀ x, foldedSetIterable iter X.env x = pure x := by intro _; rfl)
    (hy : X.N[i]? = some y := by rfl) (hyl : X.env.scope.names.lookup y = some .local := by rfl)
    (hsw : swapsWith (.ListComp elt [⟨tg, iter, ifs, 0⟩] scope pos) (some (.Name y py)) spos.line X.env = pure true := by rfl) :
    PS X (.Assign [.Name y py] (.ListComp elt [⟨tg, iter, ifs, 0⟩] scope pos) spos) (ts X.K W (wSet i (wFz (wLc wi g t we (own.map (·.2)) q)))) := PS.imp (ps_setLc hc hN hy hyl hsw hi ok hg ht he hs) fun Z σ H h => by
  obtain ⟨S, E, rfl, rfl, ok, w, l⟩ := h
  have h1 := ts_set (K := X.K) (W := W) (Z := Z) ⟨S, E, rfl, rfl, ok, w, l⟩
  exact te_lc (te_fz h1)
end
end
/-- a block that is never walked -/
theorem q_nevers {ss : List Stmt} : PSs X ss (ts X.K W wNever) := ⟨fun pins s σ H D I h => by
  obtain ⟨S, E, rfl, rfl, ok, w, l⟩ := h
  exact w.elim⟩
/-! more for simp -/
def isiK (t T : String) (q : Bool → Prop) : Prop := q (isTy t T)
@[simp ↓] theorem wIsi_eq' {T : String} {we : DE (Kd × D)} {ρ : Rho} {P : Po (Kd × D)} : wIsi T we ρ P = we ρ ⟨fun p x ρ' => optK (tyN x.2) fun t => isiK t T fun b => P.ok p (.fz, .bl b) ρ', P.ex⟩ := rfl
@[simp ↓] theorem isiK_NoneType_bool {q : Bool → Prop} : isiK "NoneType" "bool" q = q false := by rw [isiK, show isTy "NoneType" "bool" = false by decide]
@[simp ↓] theorem isiK_NoneType_int {q : Bool → Prop} : isiK "NoneType" "int" q = q false := by rw [isiK, show isTy "NoneType" "int" = false by decide]
@[simp ↓] theorem isiK_NoneType_str {q : Bool → Prop} : isiK "NoneType" "str" q = q false := by rw [isiK, show isTy "NoneType" "str" = false by decide]
@[simp ↓] theorem isiK_NoneType_list {q : Bool → Prop} : isiK "NoneType" "list" q = q false := by rw [isiK, show isTy "NoneType" "list" = false by decide]
@[simp ↓] theorem isiK_NoneType_tuple {q : Bool → Prop} : isiK "NoneType" "tuple" q = q false := by rw [isiK, show isTy "NoneType" "tuple" = false by decide]
@[simp ↓] theorem isiK_NoneType_dict {q : Bool → Prop} : isiK "NoneType" "dict" q = q false := by rw [isiK, show isTy "NoneType" "dict" = false by decide]
@[simp ↓] theorem isiK_bool_bool {q : Bool → Prop} : isiK "bool" "bool" q = q true := by rw [isiK, show isTy "bool" "bool" = true by decide]
@[simp ↓] theorem isiK_bool_int {q : Bool → Prop} : isiK "bool" "int" q = q true := by rw [isiK, show isTy "bool" "int" = true by decide]
@[simp ↓] theorem isiK_bool_str {q : Bool → Prop} : isiK "bool" "str" q = q false := by rw [isiK, show isTy "bool" "str" = false by decide]
@[simp ↓] theorem isiK_bool_list {q : Bool → Prop} : isiK "bool" "list" q = q false := by rw [isiK, show isTy "bool" "list" = false by decide]
@[simp ↓] theorem isiK_bool_tuple {q : Bool → Prop} : isiK "bool" "tuple" q = q false := by rw [isiK, show isTy "bool" "tuple" = false by decide]
@[simp ↓] theorem isiK_bool_dict {q : Bool → Prop} : isiK "bool" "dict" q = q false := by rw [isiK, show isTy "bool" "dict" = false by decide]
@[simp ↓] theorem isiK_int_bool {q : Bool → Prop} : isiK "int" "bool" q = q false := by rw [isiK, show isTy "int" "bool" = false by decide]
@[simp ↓] theorem isiK_int_int {q : Bool → Prop} : isiK "int" "int" q = q true := by rw [isiK, show isTy "int" "int" = true by decide]
@[simp ↓] theorem isiK_int_str {q : Bool → Prop} : isiK "int" "str" q = q false := by rw [isiK, show isTy "int" "str" = false by decide]
@[simp ↓] theorem isiK_int_list {q : Bool → Prop} : isiK "int" "list" q = q false := by rw [isiK, show isTy "int" "list" = false by decide]
@[simp ↓] theorem isiK_int_tuple {q : Bool → Prop} : isiK "int" "tuple" q = q false := by rw [isiK, show isTy "int" "tuple" = false by decide]
@[simp ↓] theorem isiK_int_dict {q : Bool → Prop} : isiK "int" "dict" q = q false := by rw [isiK, show isTy "int" "dict" = false by decide]
@[simp ↓] theorem isiK_str_bool {q : Bool → Prop} : isiK "str" "bool" q = q false := by rw [isiK, show isTy "str" "bool" = false by decide]
@[simp ↓] theorem isiK_str_int {q : Bool → Prop} : isiK "str" "int" q = q false := by rw [isiK, show isTy "str" "int" = false by decide]
@[simp ↓] theorem isiK_str_str {q : Bool → Prop} : isiK "str" "str" q = q true := by rw [isiK, show isTy "str" "str" = true by decide]
@[simp ↓] theorem isiK_str_list {q : Bool → Prop} : isiK "str" "list" q = q false := by rw [isiK, show isTy "str" "list" = false by decide]
@[simp ↓] theorem isiK_str_tuple {q : Bool → Prop} : isiK "str" "tuple" q = q false := by rw [isiK, show isTy "str" "tuple" = false by decide]
@[simp ↓] theorem isiK_str_dict {q : Bool → Prop} : isiK "str" "dict" q = q false := by rw [isiK, show isTy "str" "dict" = false by decide]
@[simp ↓] theorem isiK_list_bool {q : Bool → Prop} : isiK "list" "bool" q = q false := by rw [isiK, show isTy "list" "bool" = false by decide]
@[simp ↓] theorem isiK_list_int {q : Bool → Prop} : isiK "list" "int" q = q false := by rw [isiK, show isTy "list" "int" = false by decide]
@[simp ↓] theorem isiK_list_str {q : Bool → Prop} : isiK "list" "str" q = q false := by rw [isiK, show isTy "list" "str" = false by decide]
@[simp ↓] theorem isiK_list_list {q : Bool → Prop} : isiK "list" "list" q = q true := by rw [isiK, show isTy "list" "list" = true by decide]
@[simp ↓] theorem isiK_list_tuple {q : Bool → Prop} : isiK "list" "tuple" q = q false := by rw [isiK, show isTy "list" "tuple" = false by decide]
@[simp ↓] theorem isiK_list_dict {q : Bool → Prop} : isiK "list" "dict" q = q false := by rw [isiK, show isTy "list" "dict" = false by decide]
@[simp ↓] theorem isiK_tuple_bool {q : Bool → Prop} : isiK "tuple" "bool" q = q false := by rw [isiK, show isTy "tuple" "bool" = false by decide]
@[simp ↓] theorem isiK_tuple_int {q : Bool → Prop} : isiK "tuple" "int" q = q false := by rw [isiK, show isTy "tuple" "int" = false by decide]
@[simp ↓] theorem isiK_tuple_str {q : Bool → Prop} : isiK "tuple" "str" q = q false := by rw [isiK, show isTy "tuple" "str" = false by decide]
@[simp ↓] theorem isiK_tuple_list {q : Bool → Prop} : isiK "tuple" "list" q = q false := by rw [isiK, show isTy "tuple" "list" = false by decide]
@[simp ↓] theorem isiK_tuple_tuple {q : Bool → Prop} : isiK "tuple" "tuple" q = q true := by rw [isiK, show isTy "tuple" "tuple" = true by decide]
@[simp ↓] theorem isiK_tuple_dict {q : Bool → Prop} : isiK "tuple" "dict" q = q false := by rw [isiK, show isTy "tuple" "dict" = false by decide]
@[simp ↓] theorem isiK_dict_bool {q : Bool → Prop} : isiK "dict" "bool" q = q false := by rw [isiK, show isTy "dict" "bool" = false by decide]
@[simp ↓] theorem isiK_dict_int {q : Bool → Prop} : isiK "dict" "int" q = q false := by rw [isiK, show isTy "dict" "int" = false by decide]
@[simp ↓] theorem isiK_dict_str {q : Bool → Prop} : isiK "dict" "str" q = q false := by rw [isiK, show isTy "dict" "str" = false by decide]
@[simp ↓] theorem isiK_dict_list {q : Bool → Prop} : isiK "dict" "list" q = q false := by rw [isiK, show isTy "dict" "list" = false by decide]
@[simp ↓] theorem isiK_dict_tuple {q : Bool → Prop} : isiK "dict" "tuple" q = q false := by rw [isiK, show isTy "dict" "tuple" = false by decide]
@[simp ↓] theorem isiK_dict_dict {q : Bool → Prop} : isiK "dict" "dict" q = q true := by rw [isiK, show isTy "dict" "dict" = true by decide]
@[simp ↓] theorem ixN_0 {n : Nat} : ixN (n + 1) 0 = some 0 := by simp [ixN] <;> omega
@[simp ↓] theorem atI_0 {α : Type} {x0 : α} {r : List α} : L2.atI (x0 :: r) 0 = some x0 := by
  have h : ixN (x0 :: r).length 0 = some 0 := by simp [ixN] <;> omega
  unfold L2.atI
  rw [h]
  rfl
@[simp ↓] theorem atI_1 {α : Type} {x0 x1 : α} {r : List α} : L2.atI (x0 :: x1 :: r) 1 = some x1 := by
  have h : ixN (x0 :: x1 :: r).length 1 = some 1 := by simp [ixN] <;> omega
  unfold L2.atI
  rw [h]
  rfl
@[simp ↓] theorem atI_2 {α : Type} {x0 x1 x2 : α} {r : List α} : L2.atI (x0 :: x1 :: x2 :: r) 2 = some x2 := by
  have h : ixN (x0 :: x1 :: x2 :: r).length 2 = some 2 := by simp [ixN] <;> omega
  unfold L2.atI
  rw [h]
  rfl
@[simp ↓] theorem atI_3 {α : Type} {x0 x1 x2 x3 : α} {r : List α} : L2.atI (x0 :: x1 :: x2 :: x3 :: r) 3 = some x3 := by
  have h : ixN (x0 :: x1 :: x2 :: x3 :: r).length 3 = some 3 := by simp [ixN] <;> omega
  unfold L2.atI
  rw [h]
  rfl
@[simp ↓] theorem atI_4 {α : Type} {x0 x1 x2 x3 x4 : α} {r : List α} : L2.atI (x0 :: x1 :: x2 :: x3 :: x4 :: r) 4 = some x4 := by
  have h : ixN (x0 :: x1 :: x2 :: x3 :: x4 :: r).length 4 = some 4 := by simp [ixN] <;> omega
  unfold L2.atI
  rw [h]
  rfl
@[simp ↓] theorem atI_5 {α : Type} {x0 x1 x2 x3 x4 x5 : α} {r : List α} : L2.atI (x0 :: x1 :: x2 :: x3 :: x4 :: x5 :: r) 5 = some x5 := by
  have h : ixN (x0 :: x1 :: x2 :: x3 :: x4 :: x5 :: r).length 5 = some 5 := by simp [ixN] <;> omega
  unfold L2.atI
  rw [h]
  rfl
@[simp ↓] theorem atI_6 {α : Type} {x0 x1 x2 x3 x4 x5 x6 : α} {r : List α} : L2.atI (x0 :: x1 :: x2 :: x3 :: x4 :: x5 :: x6 :: r) 6 = some x6 := by
  have h : ixN (x0 :: x1 :: x2 :: x3 :: x4 :: x5 :: x6 :: r).length 6 = some 6 := by simp [ixN] <;> omega
  unfold L2.atI
  rw [h]
  rfl
@[simp ↓] theorem atI_7 {α : Type} {x0 x1 x2 x3 x4 x5 x6 x7 : α} {r : List α} : L2.atI (x0 :: x1 :: x2 :: x3 :: x4 :: x5 :: x6 :: x7 :: r) 7 = some x7 := by
  have h : ixN (x0 :: x1 :: x2 :: x3 :: x4 :: x5 :: x6 :: x7 :: r).length 7 = some 7 := by simp [ixN] <;> omega
  unfold L2.atI
  rw [h]
  rfl
@[simp ↓] theorem atI_8 {α : Type} {x0 x1 x2 x3 x4 x5 x6 x7 x8 : α} {r : List α} : L2.atI (x0 :: x1 :: x2 :: x3 :: x4 :: x5 :: x6 :: x7 :: x8 :: r) 8 = some x8 := by
  have h : ixN (x0 :: x1 :: x2 :: x3 :: x4 :: x5 :: x6 :: x7 :: x8 :: r).length 8 = some 8 := by simp [ixN] <;> omega
  unfold L2.atI
  rw [h]
  rfl
@[simp ↓] theorem atI_9 {α : Type} {x0 x1 x2 x3 x4 x5 x6 x7 x8 x9 : α} {r : List α} : L2.atI (x0 :: x1 :: x2 :: x3 :: x4 :: x5 :: x6 :: x7 :: x8 :: x9 :: r) 9 = some x9 := by
  have h : ixN (x0 :: x1 :: x2 :: x3 :: x4 :: x5 :: x6 :: x7 :: x8 :: x9 :: r).length 9 = some 9 := by simp [ixN] <;> omega
  unfold L2.atI
  rw [h]
  rfl
@[simp] theorem small_iff {n : Nat} : (small n = true) = (n ≤ 100000) := by simp [small]
@[simp ↓] theorem subL_n {q : List Nat} : subL [] q = true := rfl
@[simp] theorem subL_c {i : Nat} {p q : List Nat} : subL (i :: p) q = (q.contains i && subL p q) := rfl
@[simp ↓] theorem nodupB_n : nodupB [] = true := rfl
@[simp ↓] theorem nodupB_1 {i : Nat} : nodupB [i] = true := by simp [nodupB]
@[simp] theorem nodupB_c {i : Nat} {l : List Nat} : nodupB (i :: l) = (!l.contains i && nodupB l) := rfl
@[simp] theorem scD_n : scD .non = true := rfl
@[simp] theorem scD_b {b : Bool} : scD (.bl b) = true := rfl
@[simp] theorem scD_i {b : Int} : scD (.int b) = true := rfl
@[simp] theorem scD_s {b : Str} : scD (.str b) = true := rfl
@[simp] theorem eqvD_s {a b : Str} : eqvD (.str a) (.str b) = (a == b) := rfl
@[simp] theorem eqvD_i {a b : Int} : eqvD (.int a) (.int b) = (a == b) := rfl
@[simp] theorem eqvD_n : eqvD .non .non = true := rfl
@[simp] theorem eqvD_si {a : Str} {b : Int} : eqvD (.str a) (.int b) = false := rfl
@[simp] theorem eqvD_is {a : Str} {b : Int} : eqvD (.int b) (.str a) = false := rfl
@[simp] theorem eqvD_sn {a : Str} : eqvD (.str a) .non = false := rfl
@[simp] theorem eqvD_in {a : Int} : eqvD (.int a) .non = false := rfl
@[simp] theorem eqvD_ns {a : Str} : eqvD .non (.str a) = false := rfl
@[simp] theorem eqvD_ni {a : Int} : eqvD .non (.int a) = false := rfl
@[simp] theorem ifK_and {a b : Bool} {A B : Prop} : ifK (a && b) A B = ifK a (ifK b A B) B := by cases a <;> rfl
@[simp] theorem ifK_or {a b : Bool} {A B : Prop} : ifK (a || b) A B = ifK a A (ifK b A B) := by cases a <;> rfl
@[simp] theorem ifK_same {b : Bool} {A : Prop} : ifK b A A = A := by cases b <;> rfl
@[simp] theorem ifK_beqI {a b : Int} {A B : Prop} : ifK (a == b) A B = if a = b then A else B := by simp [ifK]
@[simp] theorem ifK_beqS {a b : Str} {A B : Prop} : ifK (a == b) A B = if a = b then A else B := by simp [ifK]
/-! a field stored -/
def mdK (k : Kd) (q : Md → Prop) : Prop := match k.md with
  | some m => q m
  | none => False
@[simp ↓] theorem mdK_f {q : Md → Prop} : mdK .fz q = q .F := rfl
@[simp ↓] theorem mdK_n {m : Md} {q : Md → Prop} : mdK (.new m) q = q m := rfl
def putsK (fs : List (Str × D)) (j : Nat) (f : Str) (d : D) (ms : List Md) (mx : Md) (q : List (Str × D) → List Md → Prop) : Prop := match fs[j]? with
  | some (k, _) => k = f ∧ q (fs.set j (f, d)) (ms.set j mx)
  | none => (fs.map (·.1)).contains f = false ∧ q (fs ++ [(f, d)]) (ms ++ [mx])
@[simp ↓] theorem putFldK_s {i j : Nat} {C : Addr} {f : Str} {x : Kd × D} {y : Option (Md × D)} {ρ : Rho} {q : Rho → Prop} : putFldK (i + 1) C f j x (y :: ρ) q = putFldK i C f j x ρ fun ρ' => q (y :: ρ') := by
  unfold putFldK
  rw [List.getElem?_cons_succ]
  rfl
@[simp ↓] theorem putFldK_P {j : Nat} {C C' : Addr} {f : Str} {x : Kd × D} {ms : List Md} {fs : List (Str × D)} {ρ : Rho} {q : Rho → Prop} : putFldK 0 C f j x (some (.P (.O ms), .obj C' fs) :: ρ) q = mdK x.1 fun mx => (C' = C ∧ notP mx = true ∧ fs.length ≤ 900) ∧ putsK fs j f x.2 ms mx fun fs' ms' => q (some (.P (.O ms'), .obj C fs') :: ρ) := by
  unfold putFldK mdK putsK
  cases x.1.md with
  | none => rfl
  | some mx =>
    show ((C' = C ∧ notP mx = true ∧ Nat.ble fs.length 900 = true) ∧ _) = _
    rw [show (Nat.ble fs.length 900 = true) = (fs.length ≤ 900) by simp]
    congr 1
@[simp ↓] theorem putFldK_O {j : Nat} {C C' : Addr} {f : Str} {x : Kd × D} {ms : List Md} {fs : List (Str × D)} {ρ : Rho} {q : Rho → Prop} : putFldK 0 C f j x (some (.O ms, .obj C' fs) :: ρ) q = mdK x.1 fun mx => (C' = C ∧ notP mx = true ∧ fs.length ≤ 900) ∧ putsK fs j f x.2 ms mx fun fs' ms' => q (some (.O ms', .obj C fs') :: ρ) := by
  unfold putFldK mdK putsK
  cases x.1.md with
  | none => rfl
  | some mx =>
    show ((C' = C ∧ notP mx = true ∧ Nat.ble fs.length 900 = true) ∧ _) = _
    rw [show (Nat.ble fs.length 900 = true) = (fs.length ≤ 900) by simp]
    congr 1
@[simp ↓] theorem putsK_r0 {x0 : Str × D} {r : List (Str × D)} {m0 : Md} {rs : List Md} {f : Str} {d : D} {mx : Md} {q : List (Str × D) → List Md → Prop} : putsK (x0 :: r) 0 f d (m0 :: rs) mx q = (x0.1 = f ∧ q ((f, d) :: r) (mx :: rs)) := rfl
@[simp ↓] theorem putsK_r1 {x0 x1 : Str × D} {r : List (Str × D)} {m0 m1 : Md} {rs : List Md} {f : Str} {d : D} {mx : Md} {q : List (Str × D) → List Md → Prop} : putsK (x0 :: x1 :: r) 1 f d (m0 :: m1 :: rs) mx q = (x1.1 = f ∧ q (x0 :: (f, d) :: r) (m0 :: mx :: rs)) := rfl
@[simp ↓] theorem putsK_r2 {x0 x1 x2 : Str × D} {r : List (Str × D)} {m0 m1 m2 : Md} {rs : List Md} {f : Str} {d : D} {mx : Md} {q : List (Str × D) → List Md → Prop} : putsK (x0 :: x1 :: x2 :: r) 2 f d (m0 :: m1 :: m2 :: rs) mx q = (x2.1 = f ∧ q (x0 :: x1 :: (f, d) :: r) (m0 :: m1 :: mx :: rs)) := rfl
@[simp ↓] theorem putsK_r3 {x0 x1 x2 x3 : Str × D} {r : List (Str × D)} {m0 m1 m2 m3 : Md} {rs : List Md} {f : Str} {d : D} {mx : Md} {q : List (Str × D) → List Md → Prop} : putsK (x0 :: x1 :: x2 :: x3 :: r) 3 f d (m0 :: m1 :: m2 :: m3 :: rs) mx q = (x3.1 = f ∧ q (x0 :: x1 :: x2 :: (f, d) :: r) (m0 :: m1 :: m2 :: mx :: rs)) := rfl
@[simp ↓] theorem putsK_r4 {x0 x1 x2 x3 x4 : Str × D} {r : List (Str × D)} {m0 m1 m2 m3 m4 : Md} {rs : List Md} {f : Str} {d : D} {mx : Md} {q : List (Str × D) → List Md → Prop} : putsK (x0 :: x1 :: x2 :: x3 :: x4 :: r) 4 f d (m0 :: m1 :: m2 :: m3 :: m4 :: rs) mx q = (x4.1 = f ∧ q (x0 :: x1 :: x2 :: x3 :: (f, d) :: r) (m0 :: m1 :: m2 :: m3 :: mx :: rs)) := rfl
@[simp ↓] theorem putsK_r5 {x0 x1 x2 x3 x4 x5 : Str × D} {r : List (Str × D)} {m0 m1 m2 m3 m4 m5 : Md} {rs : List Md} {f : Str} {d : D} {mx : Md} {q : List (Str × D) → List Md → Prop} : putsK (x0 :: x1 :: x2 :: x3 :: x4 :: x5 :: r) 5 f d (m0 :: m1 :: m2 :: m3 :: m4 :: m5 :: rs) mx q = (x5.1 = f ∧ q (x0 :: x1 :: x2 :: x3 :: x4 :: (f, d) :: r) (m0 :: m1 :: m2 :: m3 :: m4 :: mx :: rs)) := rfl
@[simp ↓] theorem putsK_a0 {f : Str} {d : D} {mx : Md} {q : List (Str × D) → List Md → Prop} : putsK [] 0 f d [] mx q = ([].contains f = false ∧ q [(f, d)] [mx]) := rfl
@[simp ↓] theorem putsK_a1 {x0 : Str × D} {m0 : Md} {f : Str} {d : D} {mx : Md} {q : List (Str × D) → List Md → Prop} : putsK [x0] 1 f d [m0] mx q = ([x0.1].contains f = false ∧ q [x0, (f, d)] [m0, mx]) := rfl
@[simp ↓] theorem putsK_a2 {x0 x1 : Str × D} {m0 m1 : Md} {f : Str} {d : D} {mx : Md} {q : List (Str × D) → List Md → Prop} : putsK [x0, x1] 2 f d [m0, m1] mx q = ([x0.1, x1.1].contains f = false ∧ q [x0, x1, (f, d)] [m0, m1, mx]) := rfl
@[simp ↓] theorem putsK_a3 {x0 x1 x2 : Str × D} {m0 m1 m2 : Md} {f : Str} {d : D} {mx : Md} {q : List (Str × D) → List Md → Prop} : putsK [x0, x1, x2] 3 f d [m0, m1, m2] mx q = ([x0.1, x1.1, x2.1].contains f = false ∧ q [x0, x1, x2, (f, d)] [m0, m1, m2, mx]) := rfl
@[simp ↓] theorem putsK_a4 {x0 x1 x2 x3 : Str × D} {m0 m1 m2 m3 : Md} {f : Str} {d : D} {mx : Md} {q : List (Str × D) → List Md → Prop} : putsK [x0, x1, x2, x3] 4 f d [m0, m1, m2, m3] mx q = ([x0.1, x1.1, x2.1, x3.1].contains f = false ∧ q [x0, x1, x2, x3, (f, d)] [m0, m1, m2, m3, mx]) := rfl
@[simp ↓] theorem putsK_a5 {x0 x1 x2 x3 x4 : Str × D} {m0 m1 m2 m3 m4 : Md} {f : Str} {d : D} {mx : Md} {q : List (Str × D) → List Md → Prop} : putsK [x0, x1, x2, x3, x4] 5 f d [m0, m1, m2, m3, m4] mx q = ([x0.1, x1.1, x2.1, x3.1, x4.1].contains f = false ∧ q [x0, x1, x2, x3, x4, (f, d)] [m0, m1, m2, m3, m4, mx]) := rfl
@[simp ↓] theorem dSet_o0 {C : Addr} {x0 : Str × D} {r : List (Str × D)} {d : D} : dSet (.obj C (x0 :: r)) [0] d = .obj C ((x0.1, d) :: r) := rfl
@[simp ↓] theorem dSet_o1 {C : Addr} {x0 x1 : Str × D} {r : List (Str × D)} {d : D} : dSet (.obj C (x0 :: x1 :: r)) [1] d = .obj C (x0 :: (x1.1, d) :: r) := rfl
@[simp ↓] theorem dSet_o2 {C : Addr} {x0 x1 x2 : Str × D} {r : List (Str × D)} {d : D} : dSet (.obj C (x0 :: x1 :: x2 :: r)) [2] d = .obj C (x0 :: x1 :: (x2.1, d) :: r) := rfl
@[simp ↓] theorem dSet_o3 {C : Addr} {x0 x1 x2 x3 : Str × D} {r : List (Str × D)} {d : D} : dSet (.obj C (x0 :: x1 :: x2 :: x3 :: r)) [3] d = .obj C (x0 :: x1 :: x2 :: (x3.1, d) :: r) := rfl
@[simp ↓] theorem dSet_o4 {C : Addr} {x0 x1 x2 x3 x4 : Str × D} {r : List (Str × D)} {d : D} : dSet (.obj C (x0 :: x1 :: x2 :: x3 :: x4 :: r)) [4] d = .obj C (x0 :: x1 :: x2 :: x3 :: (x4.1, d) :: r) := rfl
@[simp ↓] theorem dSet_o5 {C : Addr} {x0 x1 x2 x3 x4 x5 : Str × D} {r : List (Str × D)} {d : D} : dSet (.obj C (x0 :: x1 :: x2 :: x3 :: x4 :: x5 :: r)) [5] d = .obj C (x0 :: x1 :: x2 :: x3 :: x4 :: (x5.1, d) :: r) := rfl
/-! loops -/
def fr (o : Option D) : Option (Md × D) := o.map fun d => (.F, d)
@[simp ↓] theorem stK_fr {o : Option D} {md : Md × D} {ρ : Rho} {q : Rho → Prop} : stK 0 md (fr o :: ρ) q = q (some md :: ρ) := by cases o <;> simp [stK, okSlot, fr]
@[simp] theorem fr_ex {d : D} : (∃ x, some (Md.F, d) = fr x) = True := by simp; exact ⟨some d, rfl⟩
@[simp] theorem fr_exf {o : Option D} : (∃ x, fr o = fr x) = True := by simp; exact ⟨o, rfl⟩
@[simp] theorem fr_exn : (∃ x, none = fr x) = True := by simp; exact ⟨none, rfl⟩
def whileK (c : DE Bool) (b : DS) (E : En) (ρ : Rho) : Prop := ∃ I : Nat → Rho → Prop, (∃ m, I m ρ) ∧ ∀ m ρ, I m ρ → c ρ ⟨fun _ k ρ' => ifK k (b { E with nx := fun ρ2 => ∃ m', m' < m ∧ I m' ρ2, ct := fun ρ2 => ∃ m', m' < m ∧ I m' ρ2, bk := E.nx } ρ') (E.nx ρ'), E.ex⟩
@[simp ↓] theorem wWhile_eq {c : DE Bool} {b : DS} {E : En} {ρ : Rho} : wWhile c b E ρ = whileK c b E ρ := by
  unfold wWhile whileK
  congr 1
  funext I
  congr 1
  refine forall_congr fun m => forall_congr fun ρ => ?_
  congr 1
  congr 1
  congr 1
  funext p k ρ'
  cases k <;> rfl
def lcK (ds : List D) (g : DG) (t : DE Bool) (we : DE (Kd × D)) (vs q : List Nat) (ρ : Rho) (Z : List D → Rho → Prop) : Prop := ∃ I : Nat → List D → Rho → Prop, I 0 [] ρ ∧
  (∀ i d acc ρ2, ds[i]? = some d → I i acc ρ2 → lcTurn g t we vs q d acc ρ2 (I (i + 1))) ∧ (∀ acc ρ2, I ds.length acc ρ2 → Z acc ρ2)
@[simp ↓] theorem wLc_eq {w : DE (List D)} {g : DG} {t : DE Bool} {we : DE (Kd × D)} {vs q : List Nat} {ρ : Rho} {P : Po (Kd × D)} : wLc w g t we vs q ρ P = w ρ ⟨fun p ds ρ1 => lcK ds g t we vs q (wipeR ρ1 vs) fun acc ρ2 => P.ok (p ++ (vs ++ q)) (.new (.L .F), .lst acc) ρ2, P.ex⟩ := rfl
@[simp ↓] theorem lcTurn_eq {g : DG} {t : DE Bool} {we : DE (Kd × D)} {vs q : List Nat} {d : D} {acc : List D} {ρ : Rho} {N : List D → Rho → Prop} : lcTurn g t we vs q d acc ρ N = g d ρ fun ρ3 => t ρ3 ⟨fun p4 b ρ4 => subL p4 q = true ∧ ifK b (we ρ4 ⟨fun p5 x ρ5 => (subL p5 q = true ∧ allFz [(x.1.frz, x.2)] = true ∧ small (acc.length + 1) = true) ∧ N (acc ++ [x.2]) (wipeR ρ5 vs), noEx⟩) (N acc (wipeR ρ4 vs)), noEx⟩ := by
  unfold lcTurn
  congr 1
  funext ρ3
  congr 2
  funext p b ρ4
  cases b <;> rfl
@[simp ↓] theorem wipeR_n {ρ : Rho} : wipeR ρ [] = ρ := rfl
@[simp ↓] theorem wipeR_c {ρ : Rho} {v : Nat} {vs : List Nat} : wipeR ρ (v :: vs) = (wipeR ρ vs).set v none := rfl
/-- every item's answer is G of it -/
theorem lc_map {ds : List D} {g : DG} {we : DE (Kd × D)} {vs q : List Nat} {ρ : Rho} {Z : List D → Rho → Prop} (G : D → D) (hz : Z (ds.map G) ρ)
    (h : ∀ d ∈ ds, ∀ acc : List D, acc.length < ds.length → lcTurn g wYes we vs q d acc ρ fun acc' ρ' => acc' = acc ++ [G d] ∧ ρ' = ρ) : lcK ds g wYes we vs q ρ Z := by
  refine ⟨fun i acc r => acc = (ds.take i).map G ∧ r = ρ, ⟨by simp, rfl⟩, fun i d acc r hd hi => ?_, fun acc r hr => ?_⟩
  · obtain ⟨rfl, rfl⟩ := hi
    have hlt := (List.getElem?_eq_some_iff.mp hd).1
    have e : (ds.take (i + 1)).map G = (ds.take i).map G ++ [G d] := by
      rw [List.take_add_one, hd]
      simp
    have z := h d (List.mem_of_getElem? hd) ((ds.take i).map G) (by simp; omega)
    rw [← e] at z
    exact z
  · obtain ⟨rfl, rfl⟩ := hr
    rw [List.take_length]
    exact hz
theorem lc_mapA {α : Type} {xs : List α} {f G : α → D} {g : DG} {we : DE (Kd × D)} {vs q : List Nat} {ρ : Rho} {Z : List D → Rho → Prop} (hz : Z (xs.map G) ρ)
    (h : ∀ x ∈ xs, ∀ acc : List D, acc.length < xs.length → lcTurn g wYes we vs q (f x) acc ρ fun acc' ρ' => acc' = acc ++ [G x] ∧ ρ' = ρ) : lcK (xs.map f) g wYes we vs q ρ Z := by
  refine ⟨fun i acc r => acc = (xs.take i).map G ∧ r = ρ, ⟨by simp, rfl⟩, fun i d acc r hd hi => ?_, fun acc r hr => ?_⟩
  · obtain ⟨rfl, rfl⟩ := hi
    rw [List.getElem?_map] at hd
    cases ex : xs[i]? with
    | none => rw [ex] at hd; cases hd
    | some x =>
      rw [ex] at hd
      cases hd
      have hlt := (List.getElem?_eq_some_iff.mp ex).1
      have e : (xs.take (i + 1)).map G = (xs.take i).map G ++ [G x] := by
        rw [List.take_add_one, ex]
        simp
      have z := h x (List.mem_of_getElem? ex) ((xs.take i).map G) (by simp; omega)
      rw [← e] at z
      exact z
  · obtain ⟨rfl, rfl⟩ := hr
    rw [List.length_map, List.take_length]
    exact hz
/-- a slot that may be stored -/
def gr : Option (Md × D) → Option (Md × D)
  | some (.P _, _) => none
  | o => o
@[simp ↓] theorem stK_gr {o : Option (Md × D)} {md : Md × D} {ρ : Rho} {q : Rho → Prop} : stK 0 md (gr o :: ρ) q = q (some md :: ρ) := by
  cases o with
  | none => simp [stK, okSlot, gr]
  | some x =>
    obtain ⟨m, d⟩ := x
    cases m <;> simp [stK, okSlot, gr]
@[simp] theorem gr_F {d : D} : (∃ x, some (Md.F, d) = gr x) = True := by simp; exact ⟨some (.F, d), rfl⟩
@[simp] theorem gr_L {d : D} {m : Md} : (∃ x, some (Md.L m, d) = gr x) = True := by simp; exact ⟨some (.L m, d), rfl⟩
@[simp] theorem gr_K {d : D} : (∃ x, some (Md.K, d) = gr x) = True := by simp; exact ⟨some (.K, d), rfl⟩
@[simp] theorem gr_O {d : D} {m : List Md} : (∃ x, some (Md.O m, d) = gr x) = True := by simp; exact ⟨some (.O m, d), rfl⟩
@[simp] theorem gr_n : (∃ x, none = gr x) = True := by simp; exact ⟨none, rfl⟩
@[simp] theorem gr_g {o : Option (Md × D)} : (∃ x, gr o = gr x) = True := by simp; exact ⟨o, rfl⟩
@[simp] theorem gr_f {o : Option D} : (∃ x, fr o = gr x) = True := by simp; exact ⟨fr o, by cases o <;> rfl⟩
/-- a loop over items: J says what stands ahead of the i-th turn -/
theorem for_inv {ds : List D} {g : DG} {b : DS} {E : En} {ρ : Rho} (J : Nat → Rho → Prop) (h0 : J 0 ρ) (he : ∀ ρ2, J ds.length ρ2 → E.nx ρ2) (hs : ∀ i d ρ2, ds[i]? = some d → J i ρ2 → g d ρ2 fun ρ3 => b { E with nx := J (i + 1), ct := J (i + 1), bk := E.nx } ρ3) : forK ds g b E ρ := ⟨J, h0, hs, he⟩
theorem map_toNat_inj : ∀ {a b : List Char}, a.map Char.toNat = b.map Char.toNat → a = b
  | [], [], _ => rfl
  | [], _ :: _, h => by simp at h
  | _ :: _, [], h => by simp at h
  | x :: a, y :: b, h => by
    simp only [List.map_cons, List.cons.injEq] at h
    rw [map_toNat_inj h.2, Char.toNat_inj.mp h.1]
@[simp] theorem str_inj {a b : String} : (Str.ofString a = Str.ofString b) ↔ a = b := by
  refine ⟨fun h => ?_, fun h => h ▸ rfl⟩
  rw [Str.ofString_eq_toList, Str.ofString_eq_toList] at h
  have h1 : a.toList.map Char.toNat = b.toList.map Char.toNat := by simpa using h
  exact String.toList_inj.mp (map_toNat_inj h1)
theorem fnok_none {P : Program} {w : World} {K : PySem.W.Frag} {mg : Str → Option Value} {base : Heap} {CX : CXT} {k : Nat} {f : Addr} {fd : FuncData} {ps : List Str} {ms ms' : List Md} {Wf : DF} (h : ∀ ds P, Wf ds P → False) : FnOk P w K mg base CX k f fd ps (spV K ms ms' Wf) := by
  refine ⟨fun vs H Q E q => ?_, fun A outer s H args us vs Q E _ _ _ _ q => ?_⟩
  · obtain ⟨_, ds, P, _, _, _, _, _, _, _, z, _⟩ := q
    exact (h ds P z).elim
  · obtain ⟨_, ds, P, _, _, _, _, _, _, _, z, _⟩ := q
    exact (h ds P z).elim
/-- the law's own start: the script comes in, True goes out -/
theorem law_start {K : PySem.W.Frag} {H : Hp} {a : Addr} {ns : List Int} {Wf : DF} (hS : SqL K H a (ns.map V.int)) (h : ∀ P : Pf, P.ok (.fz, .bl true) [.scr ns] → Wf [.scr ns] P) : spV K [.F] [.F] Wf [.ref a] H (fun v _ => v = .bl true) fun _ _ _ => False := by
  refine ⟨⟨fun i => [V.ref a][i]?, H, H, [some (.ref a)], zr [.F] [.scr ns], fun _ => []⟩, [.scr ns], ⟨fun z _ => z.2 = .bl true, fun _ _ _ => False⟩, rfl, rfl, rfl, rfl, rfl, rfl, ?_, h _ rfl, ?_, ?_⟩
  · exact {
      ext := Ex.refl _
      len := rfl
      slot := fun i m d e => by
        obtain ⟨e1, e2⟩ := zr_get.mp e
        cases i with
        | zero =>
          simp at e1 e2
          subst e1; subst e2
          exact ⟨_, rfl, .F (.scr hS)⟩
        | succ i => simp at e1
      emp := fun _ _ => rfl
      nd := fun _ => List.nodup_nil
      dj := fun _ _ _ h => nomatch h
      out := fun _ _ h => nomatch h
      pins := fun i m d e => by
        obtain ⟨e1, e2⟩ := zr_get.mp e
        cases i with
        | zero => simp at e1
        | succ i => simp at e1 }
  · rintro ⟨k, d⟩ ds' T hx _ _ _ okT _ _ v hv
    have hx : d = .bl true := hx
    subst hx
    exact hv.bl_inv okT
  · intro C fl ds' T hx
    exact hx.elim
end VL

namespace VL
open PySem PySem.Spec PyProof.Rows L2
section
variable {K : PySem.W.Frag} {W : WX} {G G' H H' H0 : Hp} {σ : L2.St} {ρ : Rho} {X : Cx} {S S0 S1 T T1 T2 U : Sta} {E : En} {Z : Ends}
/-! ### == at any depth -/
mutual
def pdOf : D → PyData
  | .lst xs => .list (pdOfs xs)
  | .tup xs => .tuple (pdOfs xs)
  | .bl a => .bool a
  | .int a => .int a
  | .str a => .str a
  | _ => .none
def pdOfs : List D → List PyData
  | [] => []
  | x :: xs => pdOf x :: pdOfs xs
end
/-- None, bools, ints, texts, lists and tuples of such, so deep at most -/
def pdK : Nat → D → Bool
  | _, .non => true
  | _, .bl _ => true
  | _, .int _ => true
  | _, .str x => PyData.strOk x
  | n + 1, .lst xs => xs.all (pdK n)
  | n + 1, .tup xs => xs.all (pdK n)
  | _, _ => false
/-- == of two things -/
def eqX (x y : D) : Bool := PyData.eqv (pdOf x) (pdOf y)
def eqXs (x y : List D) : Bool := PyData.eqvAll (pdOfs x) (pdOfs y)
@[simp] theorem eqX_tt {x y : List D} : eqX (.tup x) (.tup y) = eqXs x y := rfl
@[simp] theorem eqX_ll {x y : List D} : eqX (.lst x) (.lst y) = eqXs x y := rfl
@[simp] theorem eqX_ii {x y : Int} : eqX (.int x) (.int y) = decide (x = y) := by show (x == y) = _; rw [Bool.eq_iff_iff]; simp
@[simp] theorem eqX_ss {x y : Str} : eqX (.str x) (.str y) = decide (x = y) := by show (x == y) = _; rw [Bool.eq_iff_iff]; simp
@[simp] theorem eqX_bb {x y : Bool} : eqX (.bl x) (.bl y) = decide (x = y) := by show (x == y) = _; rw [Bool.eq_iff_iff]; simp
@[simp] theorem eqX_nn : eqX .non .non = true := rfl
@[simp] theorem eqX_ns {y : Str} : eqX .non (.str y) = false := rfl
@[simp] theorem eqX_sn {y : Str} : eqX (.str y) .non = false := rfl
@[simp] theorem eqX_ni {y : Int} : eqX .non (.int y) = false := rfl
@[simp] theorem eqX_in {y : Int} : eqX (.int y) .non = false := rfl
@[simp] theorem eqX_is {x : Int} {y : Str} : eqX (.int x) (.str y) = false := rfl
@[simp] theorem eqX_si {x : Int} {y : Str} : eqX (.str y) (.int x) = false := rfl
@[simp] theorem eqX_ls {x : List D} {y : Str} : eqX (.lst x) (.str y) = false := rfl
@[simp] theorem eqX_sl {x : List D} {y : Str} : eqX (.str y) (.lst x) = false := rfl
@[simp] theorem eqX_ts {x : List D} {y : Str} : eqX (.tup x) (.str y) = false := rfl
@[simp] theorem eqX_st {x : List D} {y : Str} : eqX (.str y) (.tup x) = false := rfl
@[simp] theorem eqX_tl {x y : List D} : eqX (.tup x) (.lst y) = false := rfl
@[simp] theorem eqX_lt {x y : List D} : eqX (.lst x) (.tup y) = false := rfl
@[simp] theorem eqX_tn {x : List D} : eqX (.tup x) .non = false := rfl
@[simp] theorem eqX_nt {x : List D} : eqX .non (.tup x) = false := rfl
@[simp] theorem eqX_ln {x : List D} : eqX (.lst x) .non = false := rfl
@[simp] theorem eqX_nl {x : List D} : eqX .non (.lst x) = false := rfl
@[simp] theorem eqX_ti {x : List D} {y : Int} : eqX (.tup x) (.int y) = false := rfl
@[simp] theorem eqX_it {x : List D} {y : Int} : eqX (.int y) (.tup x) = false := rfl
@[simp] theorem eqX_li {x : List D} {y : Int} : eqX (.lst x) (.int y) = false := rfl
@[simp] theorem eqX_il {x : List D} {y : Int} : eqX (.int y) (.lst x) = false := rfl
@[simp] theorem eqX_bs {x : Bool} {y : Str} : eqX (.bl x) (.str y) = false := rfl
@[simp] theorem eqX_sb {x : Bool} {y : Str} : eqX (.str y) (.bl x) = false := rfl
@[simp] theorem eqXs_nn : eqXs [] [] = true := rfl
@[simp] theorem eqXs_nc {y : D} {ys : List D} : eqXs [] (y :: ys) = false := rfl
@[simp] theorem eqXs_cn {y : D} {ys : List D} : eqXs (y :: ys) [] = false := rfl
@[simp] theorem eqXs_cc {x y : D} {xs ys : List D} : eqXs (x :: xs) (y :: ys) = (eqX x y && eqXs xs ys) := by
  unfold eqXs
  rw [pdOfs, pdOfs, PyData.eqvAll]
  rfl
def oEqX : O2 := fun x y q => (pdK 60 x.2 = true ∧ pdK 60 y.2 = true) ∧ q (.fz, .bl (eqX x.2 y.2))
def oNeX : O2 := fun x y q => (pdK 60 x.2 = true ∧ pdK 60 y.2 = true) ∧ q (.fz, .bl (!eqX x.2 y.2))
@[simp ↓] theorem oEqX_eq {x y : Kd × D} {q : Kd × D → Prop} : oEqX x y q = ((pdK 60 x.2 = true ∧ pdK 60 y.2 = true) ∧ q (.fz, .bl (eqX x.2 y.2))) := rfl
@[simp ↓] theorem oNeX_eq {x y : Kd × D} {q : Kd × D → Prop} : oNeX x y q = ((pdK 60 x.2 = true ∧ pdK 60 y.2 = true) ∧ q (.fz, .bl (!eqX x.2 y.2))) := rfl
@[simp] theorem pdK_n {n : Nat} : pdK n .non = true := by cases n <;> rfl
@[simp] theorem pdK_b {n : Nat} {b : Bool} : pdK n (.bl b) = true := by cases n <;> rfl
@[simp] theorem pdK_i {n : Nat} {i : Int} : pdK n (.int i) = true := by cases n <;> rfl
@[simp] theorem pdK_s {n : Nat} {s : Str} : pdK n (.str s) = PyData.strOk s := by cases n <;> rfl
@[simp] theorem pdK_l {n : Nat} {xs : List D} : pdK (n + 1) (.lst xs) = xs.all (pdK n) := rfl
@[simp] theorem pdK_t {n : Nat} {xs : List D} : pdK (n + 1) (.tup xs) = xs.all (pdK n) := rfl
@[simp] theorem strOk_lit {s : String} : PyData.strOk (Str.ofString s) = true := by
  rw [Str.ofString_eq_toList]
  unfold PyData.strOk
  simp
  intro c hc
  rcases c.valid with h | h
  · exact Nat.lt_trans h (by decide)
  · exact h.2
/-! ### x is True, x is not False -/
def blK2 (x y : D) (q : Bool → Bool → Prop) : Prop := match x, y with
  | .bl a, .bl b => q a b
  | _, _ => False
@[simp ↓] theorem blK2_b {a b : Bool} {q : Bool → Bool → Prop} : blK2 (.bl a) (.bl b) q = q a b := rfl
def oIsB : O2 := fun x y q => blK2 x.2 y.2 fun a b => q (.fz, .bl (decide (a = b)))
def oNotB : O2 := fun x y q => blK2 x.2 y.2 fun a b => q (.fz, .bl (!decide (a = b)))
@[simp ↓] theorem oIsB_eq {x y : Kd × D} {q : Kd × D → Prop} : oIsB x y q = blK2 x.2 y.2 fun a b => q (.fz, .bl (decide (a = b))) := rfl
@[simp ↓] theorem oNotB_eq {x y : Kd × D} {q : Kd × D → Prop} : oNotB x y q = blK2 x.2 y.2 fun a b => q (.fz, .bl (!decide (a = b))) := rfl
/-! ### lists of owned things -/
/-- [], its items to be held as m -/
def wEmp (m : Md) : DE (Kd × D) := fun ρ P => P.ok [] (.new (.L m), .lst []) ρ
@[simp ↓] theorem wEmp_eq {m : Md} {P : Po (Kd × D)} : wEmp m ρ P = P.ok [] (.new (.L m), .lst []) ρ := rfl
/-- xs.append(e): e is nobody's else -/
def appK (r x : Kd × D) (q : Nat → List Nat → D → Prop) : Prop := match r, x with
  | (.bor i p (.L m), .lst ds), (.new m', d) => m' = m ∧ small (ds.length + 1) = true ∧ q i p (.lst (ds ++ [d]))
  | _, _ => False
@[simp ↓] theorem appK_eq {i : Nat} {p : List Nat} {m m' : Md} {ds : List D} {d : D} {q : Nat → List Nat → D → Prop} : appK (.bor i p (.L m), .lst ds) (.new m', d) q = (m' = m ∧ small (ds.length + 1) = true ∧ q i p (.lst (ds ++ [d]))) := rfl
def wApp (wr we : DE (Kd × D)) : DE (Kd × D) := fun ρ P => wr ρ ⟨fun p1 x ρ1 => isL x.2 = true ∧ we ρ1 ⟨fun p2 y ρ2 => hold x.1 p2 = true ∧ appK x y fun i p d' => P.ok (p1 ++ (p2 ++ [i])) (.fz, .non) (setAt ρ2 i p d'), P.ex⟩, P.ex⟩
@[simp ↓] theorem wApp_eq {wr we : DE (Kd × D)} {P : Po (Kd × D)} : wApp wr we ρ P = wr ρ ⟨fun p1 x ρ1 => isL x.2 = true ∧ we ρ1 ⟨fun p2 y ρ2 => hold x.1 p2 = true ∧ appK x y fun i p d' => P.ok (p1 ++ (p2 ++ [i])) (.fz, .non) (setAt ρ2 i p d'), P.ex⟩, P.ex⟩ := rfl
theorem RA.snoc {m : Md} : ∀ {vs : List V} {ds : List D} {fp : List Addr} {v : V} {d : D} {fq : List Addr}, RA K G H m vs ds fp → R K G H m v d fq → RA K G H m (vs ++ [v]) (ds ++ [d]) (fp ++ fq)
  | _, _, _, _, _, fq, .nil, r => by
    have := RA.cons r (RA.nil (K := K) (G := G) (H := H) (m := m))
    rw [List.append_nil] at this
    exact this
  | _, _, _, _, _, _, .cons h t, r => by
    rw [List.append_assoc]
    exact .cons h (RA.snoc t r)
@[simp ↓] theorem dSet_l {ds : List D} {j : Nat} {x : D} : dSet (.lst ds) [j] x = .lst (ds.set j x) := by
  unfold dSet dKid
  cases e : ds[j]? with
  | none =>
    simp only [e]
    rw [List.set_eq_of_length_le (by simpa using e)]
  | some y =>
    simp only [e]
    unfold dSet setKid
    rfl
@[simp ↓] theorem wPar_eq {i j : Nat} {wa : DE (List (Kd × D))} {E : En} : wPar i j wa E ρ = wa ρ ⟨fun _ xs ρ' => par2 i j xs ρ' E.nx, E.ex⟩ := rfl
@[simp ↓] theorem par2_eq {i j : Nat} {d e : D} {q : Rho → Prop} : par2 i j [(.fz, d), (.fz, e)] ρ q = stK i (.F, d) ρ fun ρ => stK j (.F, e) ρ q := by
  unfold par2 stK
  rfl
@[simp ↓] theorem oStr_i {k : Kd} {i : Int} {q : Kd × D → Prop} : oStr [(k, .int i)] q = (i.natAbs.log2 < 1920 ∧ q (.fz, .str (toString i))) := rfl
theorem blsOf_map {α : Type} (f : α → Bool) : ∀ l : List α, blsOf (l.map fun z => D.bl (f z)) = some (l.map f)
  | [] => rfl
  | x :: l => by simp [blsOf, blsOf_map f l]
end
end VL

namespace VLN
open PySem Sem Builtin Builtin.Str
open AutoSeq1 (wpAny_loadPart')
section
variable {prog : Program} {w : World} {A : Around} {E : Value → Shared → Prop} {s : Shared}
end
end VLN
namespace VLN2
open PySem PySem.Spec PyProof.Rows L2
def IteT (K : PySem.W.Frag) (a : Addr) : It :=
  ⟨fun i H => ∃ (xs : List V) (x : V), SqT K H a xs ∧ xs[i]? = some x, fun i H v H' => ∃ T x, v = .ref T ∧ H T = none ∧ H' = upd H T (.tup [.int (i : Nat), x]) ∧ ∀ xs, SqT K H a xs → xs[i]? = some x, fun i H => ∃ xs : List V, SqT K H a xs ∧ xs.length ≤ i⟩
def iEnumT (K : PySem.W.Frag) (ta : TA) : TI := fun σ H R => ta σ H fun vs H1 => ∃ a xs, vs = [.ref a] ∧ SqT K H1 a xs ∧ R (IteT K a) H1
end VLN2
namespace VL
open PySem PySem.Spec PyProof.Rows L2
section
variable {K : PySem.W.Frag} {W : WX} {G G' H H' H0 : Hp} {σ : L2.St} {ρ : Rho} {X : Cx} {S S0 S1 T T1 T2 U : Sta} {E : En} {Z : Ends}
def isT1 (xs : List (Kd × D)) (q : List D → Prop) : Prop := match xs with
  | [(.fz, .tup ds)] => q ds
  | _ => False
@[simp ↓] theorem isT1_eq {ds : List D} {q : List D → Prop} : isT1 [(.fz, .tup ds)] q = q ds := rfl
/-- enumerate(tuple) -/
def wEnumT (wa : DE (List (Kd × D))) : DE (List D) := fun ρ P => wa ρ ⟨fun p xs ρ' => isT1 xs fun ds => P.ok p (enumD ds) ρ', P.ex⟩
@[simp ↓] theorem wEnumT_eq {wa : DE (List (Kd × D))} {P : Po (List D)} : wEnumT wa ρ P = wa ρ ⟨fun p xs ρ' => isT1 xs fun ds => P.ok p (enumD ds) ρ', P.ex⟩ := rfl
/-- xs.insert(i, y) -/
def mIns : OM := fun ds es q => match es with
  | [.int i, x] => small (ds.length + 1) = true ∧ (0 ≤ i ∧ i < 1000000000) ∧ q (ds.take i.toNat ++ [x] ++ ds.drop i.toNat) .non
  | _ => False
@[simp ↓] theorem mIns_eq {ds : List D} {i : Int} {x : D} {q : List D → D → Prop} : mIns ds [.int i, x] q = (small (ds.length + 1) = true ∧ (0 ≤ i ∧ i < 1000000000) ∧ q (ds.take i.toNat ++ [x] ++ ds.drop i.toNat) .non) := rfl
abbrev rIns : V → List V → Hp → VK → Prop := fun x vs H Q => ∃ (l : Addr) (xs : List V) (i : Int) (y : V), x = .ref l ∧ vs = [.int i, y] ∧ H l = some (.lst xs) ∧ xs.length < sizeLine ∧ 0 ≤ i ∧ i < 2 ^ 63 ∧
    Q .non (upd H l (.lst (xs.take i.toNat ++ [y] ++ xs.drop i.toNat)))
theorem ok_Ins : OkML K rIns mIns := fun G H a xs ds vs es Q q e ha ga hx hv h k => by
  unfold mIns at h
  split at h
  · cases hv with
    | cons h1 t =>
      cases t with
      | cons h2 t =>
        cases t
        cases h1
        exact ⟨a, xs, _, _, rfl, rfl, ha, by rw [hx.len]; exact small_lt h.1, h.2.1.1, by omega, k _ _ h.2.2 _ _ (((hx.take _).append (.cons h2 .nil)).append (hx.drop _)) .non⟩
  · exact h.elim
end
end VL

namespace VL
open PySem PySem.Spec PyProof.Rows L2
section
variable {K : PySem.W.Frag} {W : WX} {G G' H H' H0 : Hp} {σ : L2.St} {ρ : Rho} {f f' : Own} {pin : Nat → Option V} {X : Cx} {S S0 S1 T T1 T2 U : Sta} {E : En} {Z : Ends}
/-! ### comprehensions of owned things -/
def lcTurnO (m : Md) (g : DG) (t : DE Bool) (we : DE (Kd × D)) (vs q : List Nat) (d : D) (acc : List D) (ρ : Rho) (N : List D → Rho → Prop) : Prop :=
  g d ρ fun ρ3 => t ρ3 ⟨fun p4 b ρ4 => subL p4 q = true ∧ match b with
    | true => we ρ4 ⟨fun p5 x ρ5 => (subL p5 q = true ∧ x.1 = .new m ∧ small (acc.length + 1) = true) ∧ N (acc ++ [x.2]) (wipeR ρ5 vs), noEx⟩
    | false => N acc (wipeR ρ4 vs), noEx⟩
def wLcO (m : Md) (w : DE (List D)) (g : DG) (t : DE Bool) (we : DE (Kd × D)) (vs q : List Nat) : DE (Kd × D) := fun ρ P => w ρ ⟨fun p ds ρ1 => ∃ I : Nat → List D → Rho → Prop, I 0 [] (wipeR ρ1 vs) ∧
  (∀ i d acc ρ2, ds[i]? = some d → I i acc ρ2 → lcTurnO m g t we vs q d acc ρ2 (I (i + 1))) ∧ (∀ acc ρ2, I ds.length acc ρ2 → P.ok (p ++ (vs ++ q)) (.new (.L m), .lst acc) ρ2), P.ex⟩
theorem te_lcO {m : Md} {w : DE (List D)} {g : DG} {t : DE Bool} {we : DE (Kd × D)} {vs q : List Nat} {Q : VK} (h : te K W (wLcO m w g t we vs q) σ H Q) :
    tLc (ti K W w) (tg K vs g) (tt K (fun _ _ _ _ => False) t) (te K (fun _ _ _ _ => False) we) vs σ H Q := by
  obtain ⟨S, P, rfl, rfl, ok, w, k, ex⟩ := h
  refine ⟨S, _, rfl, rfl, ok, w, fun p ds T e es okT tT pr J hJ Dn hD => ?_, ex⟩
  obtain ⟨I, i0, istep, iend⟩ := e
  -- the state at the block's start
  have okB : Sx K T.pin T.G T.H (wipe S.σ vs) (wipeR T.ρ vs) (wipeF T.f vs) := (Sx.wipe okT vs).slots (by rw [wipe_length, es]) fun i x hx => by
    rw [← es]
    exact wipe_ne fun z => wipeR_none z hx
  have hDf : ∀ a, Ow (wipeF T.f vs) a → Ow T.f a := fun a ⟨i, hi⟩ => ⟨i, wipeF_sub hi⟩
  have gD : T.G Dn = none := okT.ext.free hD
  have fD : ¬ Ow (wipeF T.f vs) Dn := fun z => okT.own (hDf Dn z) hD
  -- between two turns
  refine ⟨fun i n H => n + i = ds.length ∧ ∃ (U : Sta) (acc : List D) (va : List V), U.σ = wipe S.σ vs ∧ U.H = H ∧ U.ok K ∧ T.to U ∧ Tch (vs ++ q) T U ∧ H Dn = some (.lst va) ∧ (∃ fp, RA K U.G U.H m va acc fp ∧ fp.Nodup ∧ ∀ a ∈ fp, U.G a = none ∧ ¬ Ow U.f a ∧ a ≠ Dn ∧ Nw T a) ∧ U.G Dn = none ∧ ¬ Ow U.f Dn ∧ I i acc U.ρ ∧ (∀ v ∈ vs, ∀ x, U.ρ[v]? ≠ some (some x)), ⟨ds.length, rfl, ⟨T.pin, T.G, upd T.H Dn (.lst []), wipe S.σ vs, wipeR T.ρ vs, wipeF T.f vs⟩, [], [], rfl, rfl, okB.aside gD fD, ⟨⟨Ex.refl _, fun a o ha _ => ?_, fun _ _ _ => rfl, fun a ha => .inl (hDf a ha), fun a ha => ?_⟩, rfl⟩, fun j hj => ?_, upd_same, ⟨[], .nil, List.nodup_nil, fun _ h => nomatch h⟩, gD, fD, i0, fun v hv x => wipeR_none hv⟩, ?_⟩
  · show upd T.H Dn _ a = _
    rw [upd_ne (ne_of_none ha hD)]; exact ha
  · show upd T.H Dn _ a ≠ none
    by_cases c : a = Dn
    · subst c; rw [upd_same]; exact fun z => nomatch z
    · rw [upd_ne c]; exact ha
  · have hj1 : j ∉ vs := fun z => hj (List.mem_append_left _ z)
    exact ⟨wipeR_ne hj1, wipeF_ne hj1, fun a ha o ho => by
      show upd T.H Dn _ a = _
      rw [upd_ne (ne_of_none ho hD)]; exact ho⟩
  rintro i n _ ⟨hn, U, acc, va, hσ, rfl, okU, tU, chU, hva, ⟨fp, rva, ndf, kf⟩, gU, fU, iU, nU⟩
  obtain ⟨h1, h2, h3⟩ := hJ U.G U.H tU.stp.gext okU.ext i
  by_cases c : i < ds.length
  · refine .inr ⟨h1 c, fun H' => ∃ (U : Sta) (acc : List D) (va : List V), U.σ = wipe S.σ vs ∧ U.H = H' ∧ U.ok K ∧ T.to U ∧ Tch (vs ++ q) T U ∧ H' Dn = some (.lst va) ∧ (∃ fp, RA K U.G U.H m va acc fp ∧ fp.Nodup ∧ ∀ a ∈ fp, U.G a = none ∧ ¬ Ow U.f a ∧ a ≠ Dn ∧ Nw T a) ∧ U.G Dn = none ∧ ¬ Ow U.f Dn ∧ I (i + 1) acc U.ρ ∧ (∀ v ∈ vs, ∀ x, U.ρ[v]? ≠ some (some x)), fun H' hV => ⟨n - 1, by omega, by omega, hV⟩, fun x H2 hy => ?_⟩
    have hd : ds[i]? = some ds[i] := List.getElem?_eq_getElem c
    obtain ⟨G2, gr, dx⟩ := h3 x H2 ds[i] hy hd
    have hDn : U.H Dn ≠ none := by rw [hva]; exact fun z => nomatch z
    have turn := istep i _ acc U.ρ hd iU
    refine ⟨U.at G2 H2, ds[i], _, hσ, rfl, Sta.grow okU gr, dx, turn, fun A eA okA tA chA hs hl => ?_⟩
    have hsA : wipe A.σ vs = wipe S.σ vs := by
      have h9 : wipe A.σ vs = wipe (wipe S.σ vs) vs := wipe_eq (fun j hj => by rw [← hσ]; exact hs j hj) (by rw [← hσ]; exact hl)
      rw [h9]
      exact wipe_eq (fun j hj => wipe_ne hj) (wipe_length _ _)
    refine ⟨hsA, A, _, rfl, rfl, okA, eA, fun p4 b B eB esB okB tB chB b' hb => ?_, fun _ _ _ z => z.elim⟩
    subst hb
    have tUA : U.to A := gr.to.trans tA
    have tUB : U.to B := tUA.trans tB
    have keepD : ∀ V : Sta, V.ok K → U.to V → V.H Dn = some (.lst va) ∧ V.G Dn = none ∧ ¬ Ow V.f Dn := fun V okV tV => ⟨tV.stp.keep Dn _ hva fU, by rw [tV.stp.gold Dn hDn fU]; exact gU, fun z => (tV.stp.fnew Dn z).elim fU hDn⟩
    have keepF : ∀ V : Sta, V.ok K → U.to V → RA K V.G V.H m va acc fp ∧ ∀ a ∈ fp, V.G a = none ∧ ¬ Ow V.f a ∧ V.H a ≠ none := fun V okV tV => ⟨rva.keep tV.stp.gext fun a ha o ho => tV.stp.keep a o ho (kf a ha).2.1, fun a ha => ⟨by rw [tV.stp.gold a (rva.has a ha) (kf a ha).2.1]; exact (kf a ha).1, fun z => (tV.stp.fnew a z).elim (kf a ha).2.1 (rva.has a ha), tV.stp.trk a (rva.has a ha)⟩⟩
    have chUA : Tch vs U A := by
      have := gr.tch.trans chA
      exact this
    cases b' with
    | true =>
      rw [if_pos rfl, ← esB]
      refine ⟨B, _, rfl, rfl, okB, eB.2, fun p5 x V eV esV okV tV chV y hy => ?_, fun _ _ _ z => z.elim⟩
      obtain ⟨⟨s5, fz5, sz5⟩, eV⟩ := eV
      obtain ⟨k5, d5⟩ := x
      have fz5 : k5 = .new m := fz5
      subst fz5
      · obtain ⟨fy, ry, ny, ky⟩ := hy
        have tUV : U.to V := tUB.trans tV
        obtain ⟨q1, q2, q3⟩ := keepD V okV tUV
        obtain ⟨rV, kV⟩ := keepF V okV tUV
        obtain ⟨_, kB⟩ := keepF B okB tUB
        obtain ⟨dB1, dB2, dB3⟩ := keepD B okB tUB
        have yD : ∀ a ∈ fy, a ≠ Dn := fun a ha z => (ky a ha).2.2.elim (fun h => dB3 (by rw [← z]; exact h)) fun h => by rw [z, dB1] at h; cases h
        have yF : ∀ a ∈ fp, ∀ b ∈ fy, a ≠ b := fun a ha b hb z => (ky b hb).2.2.elim (fun h => (kB a ha).2.1 (by rw [z]; exact h)) fun h => (kB a ha).2.2 (by rw [z]; exact h)
        refine ⟨va, q1, ?_, ?_⟩
        · have e9 : va.length = acc.length := rva.len
          rw [e9]
          exact Nat.lt_of_lt_of_le (Nat.lt_succ_self _) (small_sz sz5)
        refine ⟨⟨V.pin, V.G, upd V.H Dn (.lst (va ++ [y])), wipe S.σ vs, wipeR V.ρ vs, wipeF V.f vs⟩, acc ++ [d5], va ++ [y], rfl, rfl, ?_, ⟨⟨(tU.trans tUV).stp.gext, fun a o ha hf => ?_, (tU.trans tUV).stp.gold, fun a ⟨j, hj⟩ => (tU.trans tUV).stp.fnew a ⟨j, wipeF_sub hj⟩, fun a ha => ?_⟩, (tU.trans tUV).pin⟩, fun j hj => ?_, upd_same, ⟨fp ++ fy, RA.snoc (rV.keep (Ex.refl _) fun a ha o ho => by show upd V.H Dn _ a = _; rw [upd_ne (kf a ha).2.2.1]; exact ho) (ry.keep (Ex.refl _) fun a ha o ho => by show upd V.H Dn _ a = _; rw [upd_ne (yD a ha)]; exact ho), List.nodup_append.mpr ⟨ndf, ny, yF⟩, fun a ha => (List.mem_append.mp ha).elim (fun h => ⟨(kV a h).1, fun ⟨j, hj⟩ => (kV a h).2.1 ⟨j, wipeF_sub hj⟩, (kf a h).2.2.1, (kf a h).2.2.2⟩) fun h => ⟨(ky a h).1, fun ⟨j, hj⟩ => (ky a h).2.1 ⟨j, wipeF_sub hj⟩, yD a h, (ky a h).2.2.of (tU.trans tUB)⟩⟩, q2, fun ⟨j, hj⟩ => q3 ⟨j, wipeF_sub hj⟩, eV, fun v hv x => wipeR_none hv⟩
        · refine Sx.aside ((Sx.wipe okV vs).slots ?_ fun i x hx => ?_) q2 fun ⟨j, hj⟩ => q3 ⟨j, wipeF_sub hj⟩
          · rw [wipe_length, esV, esB, ← wipe_length A.σ vs, hsA, wipe_length]
          · have ni : i ∉ vs := fun z => wipeR_none z hx
            rw [← hsA, wipe_ne ni, esV, esB]
        · show upd V.H Dn _ a = _
          rw [upd_ne (ne_of_none ha hD)]
          exact (tU.trans tUV).stp.keep a o ha hf
        · show upd V.H Dn _ a ≠ none
          by_cases c : a = Dn
          · subst c; rw [upd_same]; exact fun z => nomatch z
          · rw [upd_ne c]; exact (tU.trans tUV).stp.trk a ha
        · have j1 : j ∉ vs := fun z => hj (List.mem_append_left _ z)
          have j2 : j ∉ q := fun z => hj (List.mem_append_right _ z)
          have c1 := chU j hj
          have c2 := chUA j j1
          have c3 := chB j fun z => j2 (subL_of eB.1 j z)
          have c4 := chV j fun z => j2 (subL_of s5 j z)
          refine ⟨?_, ?_, fun a ha o ho => ?_⟩
          · show (wipeR V.ρ vs)[j]? = _
            rw [wipeR_ne j1, c4.1, c3.1, c2.1, c1.1]
          · show wipeF V.f vs j = _
            rw [wipeF_ne j1, c4.2.1, c3.2.1, c2.2.1, c1.2.1]
          · show upd V.H Dn _ a = _
            rw [upd_ne (ne_of_none ho hD)]
            refine c4.2.2 a ?_ o (c3.2.2 a ?_ o (c2.2.2 a ?_ o (c1.2.2 a ha o ho)))
            · rw [c3.2.1, c2.2.1, c1.2.1]; exact ha
            · rw [c2.2.1, c1.2.1]; exact ha
            · rw [c1.2.1]; exact ha
    | false =>
      rw [if_neg Bool.false_ne_true]
      obtain ⟨q1, q2, q3⟩ := keepD B okB tUB
      refine ⟨⟨B.pin, B.G, B.H, wipe S.σ vs, wipeR B.ρ vs, wipeF B.f vs⟩, acc, va, rfl, rfl, ?_, ⟨⟨(tU.trans tUB).stp.gext, (tU.trans tUB).stp.keep, (tU.trans tUB).stp.gold, fun a ⟨j, hj⟩ => (tU.trans tUB).stp.fnew a ⟨j, wipeF_sub hj⟩, (tU.trans tUB).stp.trk⟩, (tU.trans tUB).pin⟩, fun j hj => ?_, q1, ⟨fp, (keepF B okB tUB).1, ndf, fun a h => ⟨((keepF B okB tUB).2 a h).1, fun ⟨j, hj⟩ => ((keepF B okB tUB).2 a h).2.1 ⟨j, wipeF_sub hj⟩, (kf a h).2.2.1, (kf a h).2.2.2⟩⟩, q2, fun ⟨j, hj⟩ => q3 ⟨j, wipeF_sub hj⟩, eB.2, fun v hv x => wipeR_none hv⟩
      · refine (Sx.wipe okB vs).slots ?_ fun i x hx => ?_
        · rw [wipe_length, esB, ← wipe_length A.σ vs, hsA, wipe_length]
        · have ni : i ∉ vs := fun z => wipeR_none z hx
          rw [← hsA, wipe_ne ni, esB]
      · have j1 : j ∉ vs := fun z => hj (List.mem_append_left _ z)
        have j2 : j ∉ q := fun z => hj (List.mem_append_right _ z)
        have c1 := chU j hj
        have c2 := chUA j j1
        have c3 := chB j fun z => j2 (subL_of eB.1 j z)
        refine ⟨?_, ?_, fun a ha o ho => ?_⟩
        · show (wipeR B.ρ vs)[j]? = _
          rw [wipeR_ne j1, c3.1, c2.1, c1.1]
        · show wipeF B.f vs j = _
          rw [wipeF_ne j1, c3.2.1, c2.2.1, c1.2.1]
        · refine c3.2.2 a ?_ o (c2.2.2 a ?_ o (c1.2.2 a ha o ho))
          · rw [c2.2.1, c1.2.1]; exact ha
          · rw [c1.2.1]; exact ha
  · have hi : i = ds.length := by omega
    refine .inl ⟨h2 (by omega), ?_⟩
    have okE : Sx K U.pin U.G U.H S.σ U.ρ U.f := Sx.slots okU (by rw [hσ, wipe_length]) fun i x hx => by
      rw [hσ]
      exact (wipe_ne fun z => nU i z x hx).symm
    refine k _ _ ⟨U.pin, U.G, U.H, S.σ, U.ρ, U.f⟩ (iend acc U.ρ (by rw [← hi]; exact iU)) rfl okE ⟨(tT.trans tU).stp, (tT.trans tU).pin⟩ ?_ (.ref Dn) ⟨Dn :: fp, .L hva rva, List.nodup_cons.mpr ⟨fun z => (kf Dn z).2.2.1 rfl, ndf⟩, fun a ha => ?_⟩
    · exact fun j hj => (pr.trans chU) j hj
    · rcases List.mem_cons.mp ha with e9 | e9
      · subst e9
        exact ⟨gU, fU, .inr (tT.stp.free hD)⟩
      · exact ⟨(kf a e9).1, (kf a e9).2.1, (kf a e9).2.2.2.of tT⟩
section
variable {elt tg iter : Expr} {ifs : List Expr} {scope : Scope} {own : List (Str × Nat)} {pos : Pos} {wi : DE (List D)} {g : DG} {t : DE Bool} {we : DE (Kd × D)}
theorem q_setLcO (m : Md) (q : List Nat) {i : Nat} {y : Str} {py spos : Pos} (hc : X.calm = true) (hN : X.N.Nodup) (hi : PI X tg iter (ti X.K W wi)) (ok : BlkOk X.N X.env.scope scope own)
    (hg : ∀ (s : Shared) (H : Hp) (C : Addr) (cl : List (Str × Addr)) (fp : List Addr), PG (X.blk s H scope (compEnvC scope cl C X.env) fp) tg (VL.tg X.K (own.map (·.2)) g)) (ht : ∀ (s : Shared) (H : Hp) (C : Addr) (cl : List (Str × Addr)) (fp : List Addr), PTs (X.blk s H scope (compEnvC scope cl C X.env) fp) ifs (tt X.K (fun _ _ _ _ => False) t))
    (he : ∀ (s : Shared) (H : Hp) (C : Addr) (cl : List (Str × Addr)) (fp : List Addr), PE (X.blk s H scope (compEnvC scope cl C X.env) fp) elt (te X.K (fun _ _ _ _ => False) we)) (hs : ∀ x, foldedSetIterable iter X.env x = pure x := by intro _; rfl)
    (hy : X.N[i]? = some y := by rfl) (hyl : X.env.scope.names.lookup y = some .local := by rfl)
    (hsw : swapsWith (.ListComp elt [⟨tg, iter, ifs, 0⟩] scope pos) (some (.Name y py)) spos.line X.env = pure true := by rfl) :
    PS X (.Assign [.Name y py] (.ListComp elt [⟨tg, iter, ifs, 0⟩] scope pos) spos) (ts X.K W (wSet i (wLcO m wi g t we (own.map (·.2)) q))) := PS.imp (ps_setLc hc hN hy hyl hsw hi ok hg ht he hs) fun Z σ H h => by
  obtain ⟨S, E, rfl, rfl, ok, w, l⟩ := h
  have h1 := ts_set (K := X.K) (W := W) (Z := Z) ⟨S, E, rfl, rfl, ok, w, l⟩
  exact te_lcO h1
end
def lcKO (m : Md) (ds : List D) (g : DG) (t : DE Bool) (we : DE (Kd × D)) (vs q : List Nat) (ρ : Rho) (Z : List D → Rho → Prop) : Prop := ∃ I : Nat → List D → Rho → Prop, I 0 [] ρ ∧
  (∀ i d acc ρ2, ds[i]? = some d → I i acc ρ2 → lcTurnO m g t we vs q d acc ρ2 (I (i + 1))) ∧ (∀ acc ρ2, I ds.length acc ρ2 → Z acc ρ2)
@[simp ↓] theorem wLcO_eq {m : Md} {w : DE (List D)} {g : DG} {t : DE Bool} {we : DE (Kd × D)} {vs q : List Nat} {ρ : Rho} {P : Po (Kd × D)} : wLcO m w g t we vs q ρ P = w ρ ⟨fun p ds ρ1 => lcKO m ds g t we vs q (wipeR ρ1 vs) fun acc ρ2 => P.ok (p ++ (vs ++ q)) (.new (.L m), .lst acc) ρ2, P.ex⟩ := rfl
@[simp ↓] theorem lcTurnO_eq {m : Md} {g : DG} {t : DE Bool} {we : DE (Kd × D)} {vs q : List Nat} {d : D} {acc : List D} {ρ : Rho} {N : List D → Rho → Prop} : lcTurnO m g t we vs q d acc ρ N = g d ρ fun ρ3 => t ρ3 ⟨fun p4 b ρ4 => subL p4 q = true ∧ ifK b (we ρ4 ⟨fun p5 x ρ5 => (subL p5 q = true ∧ x.1 = .new m ∧ small (acc.length + 1) = true) ∧ N (acc ++ [x.2]) (wipeR ρ5 vs), noEx⟩) (N acc (wipeR ρ4 vs)), noEx⟩ := by
  unfold lcTurnO
  congr 1
  funext ρ3
  congr 2
  funext p b ρ4
  cases b <;> rfl
theorem lcO_mapA {m : Md} {α : Type} {xs : List α} {f G : α → D} {g : DG} {we : DE (Kd × D)} {vs q : List Nat} {ρ : Rho} {Z : List D → Rho → Prop} (hz : Z (xs.map G) ρ)
    (h : ∀ x ∈ xs, ∀ acc : List D, acc.length < xs.length → lcTurnO m g wYes we vs q (f x) acc ρ fun acc' ρ' => acc' = acc ++ [G x] ∧ ρ' = ρ) : lcKO m (xs.map f) g wYes we vs q ρ Z := by
  refine ⟨fun i acc r => acc = (xs.take i).map G ∧ r = ρ, ⟨by simp, rfl⟩, fun i d acc r hd hi => ?_, fun acc r hr => ?_⟩
  · obtain ⟨rfl, rfl⟩ := hi
    rw [List.getElem?_map] at hd
    cases ex : xs[i]? with
    | none => rw [ex] at hd; cases hd
    | some x =>
      rw [ex] at hd
      cases hd
      have hlt := (List.getElem?_eq_some_iff.mp ex).1
      have e : (xs.take (i + 1)).map G = (xs.take i).map G ++ [G x] := by
        rw [List.take_add_one, ex]
        simp
      have z := h x (List.mem_of_getElem? ex) ((xs.take i).map G) (by simp; omega)
      rw [← e] at z
      exact z
  · obtain ⟨rfl, rfl⟩ := hr
    rw [List.length_map, List.take_length]
    exact hz
end
end VL

/-! try: .. except C as e: y = e -- and y is asked later -/
namespace VLX
open PySem PySem.Spec PyProof.Rows L2
section
variable {X : Cx} {pins : List (Addr × Obj)} {σ : L2.St} {H : Hp} {s : Shared}
end
/-- what is wished of an exception of the body: of the class c, it is kept in slot j, and the code goes on -/
def wKeep (K : PySem.W.Frag) (c : Value) (i j : Nat) (Wout : WX) (D : Ends) : WX := fun cls d σ H =>
  ∃ b, PySem.W.exmOne K cls c = some b ∧ (b = true → d = none ∧ ∀ a, H a = none → D.nx (((σ.set i (some (.ref a))).set j (some (.ref a))).set i none) (upd H a (VL.ExK cls a))) ∧ (b = false → Wout cls d σ H)
/-- y = e, e in slot i -/
def tCopy (i j : Nat) : TS := fun D σ H => ∃ v, σ[i]? = some (some v) ∧ D.nx (σ.set j (some v)) H
section
variable {X : Cx} {x n : Str} {c : Value} {i j : Nat} {body suite : List Stmt} {b₀ : Stmt} {np pos pos' : Pos} {tb : WX → TS} {Wout : WX}
end
end VLX
namespace VLX
open PySem PySem.Spec PyProof.Rows L2
/-- isinstance of a kept exception -/
def rIsK (K : PySem.W.Frag) : List V → Hp → VK → Prop := fun xs H Q => ∃ (a D : Addr) (c : V) (cv : Value) (b : Bool), xs = [.ref a, c] ∧ H a = some (VL.ExK (.ref D) a) ∧ ExcC K D ∧ (∀ u, RelV c u → u = cv) ∧ PySem.W.kitOne K (.ref D) cv = some b ∧ Q (.bl b) H
end VLX
namespace VL
open PySem PySem.Spec PyProof.Rows L2
section
variable {K : PySem.W.Frag} {W : WX} {G G' H H' H0 : Hp} {σ : L2.St} {ρ : Rho} {f f' : Own} {pin : Nat → Option V} {X : Cx} {S S0 S1 T T1 T2 U : Sta} {E : En} {Z : Ends}
/-- isinstance(x, c), x an exception of the class C -/
def wIsK (C : Addr) (b : Bool) (we : DE (Kd × D)) : DE (Kd × D) := fun ρ P => we ρ ⟨fun p x ρ' => x = (.fz, .exc C) ∧ P.ok p (.fz, .bl b) ρ', P.ex⟩
@[simp ↓] theorem wIsK_eq {C : Addr} {b : Bool} {we : DE (Kd × D)} {P : Po (Kd × D)} : wIsK C b we ρ P = we ρ ⟨fun p x ρ' => x = (.fz, .exc C) ∧ P.ok p (.fz, .bl b) ρ', P.ex⟩ := rfl
/-- raise C('..') -/
def wRaise (C : Addr) : DS := fun E ρ => E.ex C [] ρ
@[simp ↓] theorem wRaise_eq {C : Addr} : wRaise C E ρ = E.ex C [] ρ := rfl
/-- what is asked of a class of exceptions that is raised -/
structure RsC (K : PySem.W.Frag) (C : Addr) : Prop where
  ex : PySem.W.excIn K C [.type "ValueError", .type "Exception", .type "BaseException", .type "object"] "ValueError.__new__" = true
  sb : PySem.W.subIn K (.ref C) (.type "BaseException") = some true
  ty : PySem.W.typeIn K (.ref C) = some (.type "type")
  kp : PySem.W.keepIn K (.ref C) = true
theorem q_raise {C : Addr} {x m : Str} {j : Nat} {p p2 pos pos' : Pos} (h : RsC X.K C) (hm : X.mg x = some (.ref C)) (hc : X.calm = true) (tk : Takes X W) (hg : Gl X x := by rfl) (hdb : (x == ("__debug__" : Str)) = false := by decide) :
    PS X (.Raise (some (.Call (.Name x p) [.Constant (.str m) j p2] [] pos)) none pos') (ts X.K W (wRaise C)) :=
  PS.imp (ps_raise hc tk (pmk_own PySem.F.excBase_ValueError h.ex hm h.kp (raises_own h.sb h.ty) hg hdb)) fun _ _ _ h => by
    obtain ⟨S, E, rfl, rfl, ok, w, l⟩ := h
    exact l.ex C [] S w ok (Sta.refl S) none (.inl ⟨rfl, rfl⟩)
/-- try: b / except .. as e: y = e -/
def wTryK (i j : Nat) (C : Addr) (b : DS) : DS := fun E ρ => b { E with ex := fun C' fl ρ' => (C' = C ∧ fl = []) ∧ ρ'[i]? = some none ∧ okSlot ρ' j = true ∧ E.nx (ρ'.set j (some (.F, .exc C))) } ρ
@[simp ↓] theorem wTryK_eq {i j : Nat} {C : Addr} {b : DS} : wTryK i j C b E ρ = b { E with ex := fun C' fl ρ' => (C' = C ∧ fl = []) ∧ ρ'[i]? = some none ∧ okSlot ρ' j = true ∧ E.nx (ρ'.set j (some (.F, .exc C))) } ρ := rfl
end
end VL

/-! zip of a tuple and a list, either way round -/
namespace VL
open PySem PySem.Spec PyProof.Rows L2 RZ
/-- a side's iterator: of a tuple (true) or of a list -/
def Sd (h : Heap) (j l : Addr) (n : Nat) : Bool → Prop
  | true => h.IsTupleIter j l n
  | false => h.IsListIter j l n
def Sq (h : Heap) (l : Addr) (xs : Array Value) : Bool → Prop
  | true => h.IsTuple l xs
  | false => h.IsList l xs
theorem Sd.ext {h g : Heap} {j c l : Addr} {n : Nat} {b : Bool} (x : Sd h j l n b) (e : Heap.ExtBut c h g) (d : j ≠ c) : Sd g j l n b := by
  cases b
  · exact Heap.IsListIter.extBut x e d
  · exact Heap.IsTupleIter.extBut x e d
theorem Sq.ext {h g : Heap} {c l : Addr} {xs : Array Value} {b : Bool} (x : Sq h l xs b) (e : Heap.ExtBut c h g) (d : l ≠ c) : Sq g l xs b := by
  cases b
  · exact Heap.IsList.extBut x e d
  · exact Heap.IsTuple.extBut x e d
theorem Sd.up {h g : Heap} {j l : Addr} {n : Nat} {b : Bool} (x : Sd h j l n b) (e : ∀ o, h.get? j = some o → g.get? j = some o) : Sd g j l n b := by
  cases b
  · exact Heap.IsListIter.at x e
  · exact Heap.IsTupleIter.at x e
theorem Sd.has {h : Heap} {j l : Addr} {n : Nat} {b : Bool} (x : Sd h j l n b) : ∃ o, h.get? j = some o ∧ ∀ v, o.data ≠ .cell v := by
  cases b
  · obtain ⟨o, e, _, d⟩ := x
    exact ⟨o, e, fun v q => by rw [d] at q; cases q⟩
  · obtain ⟨o, e, _, d⟩ := x
    exact ⟨o, e, fun v q => by rw [d] at q; cases q⟩
section
variable {prog : Program} {w : World} {A : Around} {E : Value → Shared → Prop} {s : Shared}
theorem Sd.next {j l : Addr} {n : Nat} {xs : Array Value} {b : Bool} {x : Value} {Q : Value → Shared → Prop} (hj : Sd s.heap j l n b) (hl : Sq s.heap l xs b) (hx : xs[n]? = some x)
    (k : ∀ g, Sd g j l (n + 1) b → Heap.SameBut j s.heap g → Q x { s with heap := g }) : wpAny (model prog w) A (Builtin.SmallTypes.nextOf (.ref j)) Q E s := by
  cases b
  · exact wpAny_nextOf_list_item hj hl hx k
  · exact nextOf_tuple_item hj hl hx k
theorem Sd.stop {j l : Addr} {n : Nat} {xs : Array Value} {b : Bool} {Q : Value → Shared → Prop} (hh : A.handled = none) (hj : Sd s.heap j l n b) (hl : Sq s.heap l xs b) (hx : xs[n]? = none)
    (k : ∀ g e, Heap.ExtBut j s.heap g → (∃ o, g.get? e = some o ∧ o.cls = .type "StopIteration") → E (.ref e) { s with heap := g }) : wpAny (model prog w) A (Builtin.SmallTypes.nextOf (.ref j)) Q E s := by
  cases b
  · exact wpAny_nextOf_list_end hh hj hl hx k
  · exact nextOf_tuple_end hh hj hl hx k
variable {z p r i j l m : Addr} {n o : Nat} {xs ys : Array Value} {b c : Bool} {u v : Value}
end
/-- the heap once the zip is made -/
def itN (b : Bool) : String := if b then "tuple_iterator" else "list_iterator"
abbrev zm1 (h : Heap) (l : Addr) (b : Bool) : Heap := h.push { cls := .type (itN b), data := .fields #[.ref l, .int 0 0] }
abbrev zm2 (h : Heap) (l m : Addr) (b c : Bool) : Heap := (zm1 h l b).push { cls := .type (itN c), data := .fields #[.ref m, .int 0 0] }
abbrev zm3 (h : Heap) (l m : Addr) (b c : Bool) : Heap := (zm2 h l m b c).push { cls := .type "tuple", data := .seq #[.ref h.objs.size, .ref (zm1 h l b).objs.size] }
abbrev zm4 (h : Heap) (l m : Addr) (b c : Bool) : Heap := (zm3 h l m b c).push { cls := .type "tuple", data := .seq #[.none, .none] }
abbrev zm5 (h : Heap) (l m : Addr) (b c : Bool) : Heap := (zm4 h l m b c).push { cls := .type "zip", data := .fields #[.none, .bool false, .bool false, .ref (zm2 h l m b c).objs.size, .ref (zm3 h l m b c).objs.size] }
section
variable {prog : Program} {w : World} {A : Around} {E : Value → Shared → Prop} {s : Shared} {l m : Addr} {xs ys : Array Value} {b : Bool} {Q : Value → Shared → Prop}
end
/-! ### for the hand layer -/
/-- a tracked list (false) or tuple (true) -/
def SqA (K : PySem.W.Frag) (H : Hp) (a : Addr) (xs : List V) : Bool → Prop
  | true => SqT K H a xs
  | false => SqL K H a xs
def ItM (K : PySem.W.Frag) (a b : Addr) (c d : Bool) : It :=
  ⟨fun i H => ∃ (xs ys : List V) (x y : V), SqA K H a xs c ∧ SqA K H b ys d ∧ xs[i]? = some x ∧ ys[i]? = some y, fun i H v H' => ∃ T x y, v = .ref T ∧ H T = none ∧ H' = upd H T (.tup [x, y]) ∧ (∀ xs, SqA K H a xs c → xs[i]? = some x) ∧ ∀ ys, SqA K H b ys d → ys[i]? = some y, fun i H => ∃ xs ys : List V, SqA K H a xs c ∧ SqA K H b ys d ∧ (xs.length ≤ i ∨ ys.length ≤ i)⟩
section
variable {X : Cx} {pins : List (Addr × Obj)} {σ : L2.St} {H : Hp} {s : Shared}
theorem SqA.is {a : Addr} {xs : List V} {c : Bool} (I : Inv X pins σ H s) (h : SqA X.K H a xs c) : ∃ its : List Value, Vals xs its ∧ Sq s.heap a its.toArray c ∧ a < s.heap.objs.size := by
  cases c
  · obtain ⟨its, rv, p, _⟩ := I.list h
    exact ⟨its, rv, p.isList, p.lt⟩
  · obtain ⟨its, rv, p, _⟩ := I.tuple h
    obtain ⟨o, ho, _⟩ := id p
    exact ⟨its, rv, p, Heap.lt_size ho⟩
theorem SqA.one {a : Addr} {xs ys : List V} {c : Bool} (I : Inv X pins σ H s) (h : SqA X.K H a xs c) (g : SqA X.K H a ys c) : xs = ys := by
  cases c
  · exact I.list_inj h g
  · exact I.tuple_inj h g
end
/-- a zip of a list and a tuple (b: the first is the tuple) -/
def iZipM (K : PySem.W.Frag) (ta : TA) : TI := fun σ H R => ta σ H fun vs H1 => ∃ a b xs ys c, vs = [.ref a, .ref b] ∧ SqA K H1 a xs c ∧ SqA K H1 b ys (!c) ∧ R (ItM K a b c !c) H1
end VL

/-! zip of a tuple and a list at the value layer -/
namespace VL
open PySem PySem.Spec PyProof.Rows L2 RT RZ
section
variable {K : PySem.W.Frag} {W : WX} {G G' H H' H0 : Hp} {σ : L2.St} {ρ : Rho} {X : Cx}
def isM2 (xs : List (Kd × D)) (q : List D → List D → Prop) : Prop := match xs with
  | [(.fz, .lst ds), (.fz, .tup es)] => q ds es
  | [(.fz, .tup ds), (.fz, .lst es)] => q ds es
  | _ => False
def wZipM (wa : DE (List (Kd × D))) : DE (List D) := fun ρ P => wa ρ ⟨fun p xs ρ' => isM2 xs fun ds es => P.ok p (zipD ds es) ρ', P.ex⟩
@[simp ↓] theorem wZipM_eq {wa : DE (List (Kd × D))} {PL : Po (List D)} : wZipM wa ρ PL = wa ρ ⟨fun p xs ρ' => isM2 xs fun ds es => PL.ok p (zipD ds es) ρ', PL.ex⟩ := rfl
@[simp ↓] theorem isM2_l {ds es : List D} {q : List D → List D → Prop} : isM2 [(.fz, .lst ds), (.fz, .tup es)] q = q ds es := rfl
@[simp ↓] theorem isM2_t {ds es : List D} {q : List D → List D → Prop} : isM2 [(.fz, .tup ds), (.fz, .lst es)] q = q ds es := rfl
end
end VL

/-! facts about classes of exceptions, from the written part's own -/
namespace VL
open PySem PySem.Spec PyProof.Rows L2
theorem kcls_of {K : PySem.W.Frag} {E C : Addr} {b : Bool} (hc : PySem.W.isClsIn K C = true) (ht : PySem.W.typeIn K (.ref C) = some (.type "type")) (hs : PySem.W.subIn K (.ref E) (.ref C) = some b) : PySem.W.kitCls K (.ref E) (.ref C) = some b := by
  have hc : (PySem.W.clsIn K C).isSome = true := hc
  unfold PySem.W.kitCls
  simp only [hc, ht]
  simpa using hs
theorem kone_of {K : PySem.W.Frag} {E C : Addr} {b : Bool} (hc : PySem.W.isClsIn K C = true) (ht : PySem.W.typeIn K (.ref C) = some (.type "type")) (hs : PySem.W.subIn K (.ref E) (.ref C) = some b) (hh : PySem.W.subIn K (.ref C) (.ref C) = some true) : PySem.W.kitOne K (.ref E) (.ref C) = some b := by
  unfold PySem.W.kitOne
  by_cases e : E = C
  · subst e
    rw [hh] at hs
    simp only [beq_self_eq_true, if_true]
    exact hs
  · have : ((Value.ref E) == (Value.ref C)) = false := by simpa using e
    simp only [this]
    exact kcls_of hc ht hs
theorem kty_of {K : PySem.W.Frag} {E : Addr} {T : String} (hm : PySem.W.kitMeta T = true) (hs : PySem.W.subIn K (.ref E) (.type T) = some true) : PySem.W.kitOne K (.ref E) (.type T) = some true := by
  unfold PySem.W.kitOne
  have : ((Value.ref E) == (Value.type T)) = false := rfl
  simp only [this]
  show (if PySem.W.kitMeta T = true then _ else none) = _
  rw [if_pos hm]
  exact hs
theorem xm_of {K : PySem.W.Frag} {E C : Addr} {b : Bool} (hb : PySem.W.subIn K (.ref C) (.type "BaseException") = some true) (hc : PySem.W.isClsIn K C = true) (ht : PySem.W.typeIn K (.ref C) = some (.type "type")) (hs : PySem.W.subIn K (.ref E) (.ref C) = some b) : PySem.W.exmOne K (.ref E) (.ref C) = some b := by
  unfold PySem.W.exmOne
  rw [hb]
  simp only [beq_self_eq_true, if_true]
  exact kcls_of hc ht hs
theorem meta_VE : PySem.W.kitMeta "ValueError" = true := by decide +kernel
end VL

namespace My
open PySem PySem.Spec PyProof.Rows L2 VL
/-- the classes' places -/
structure Cs where
  C_Machine : Addr
  C_Run : Addr
  C_NoMachine : Addr
  C_NoShot : Addr
  C_TapeError : Addr
  C_NoNames : Addr
  C_NoNumber : Addr
  C_NoStretches : Addr
  C_TooLong : Addr
  C_NoShape : Addr
  C_NoMove : Addr
  C_NoWidth : Addr
  C_NoText : Addr
  C_Ribbon : Addr
/-! ### machines as plain things -/
/-- an entry: the sign written, whether to the right, the state that comes -/
abbrev Ent := Option (Int × Bool × Int)
abbrev Tab := List (List Ent)
def wayS (r : Bool) : Str := if r then "r" else "l"
def entD : Ent → D
  | none => .non
  | some (w, r, s) => .tup [.int w, .str (wayS r), .int s]
def rowL (r : List Ent) : D := .lst (r.map entD)
def rowT (r : List Ent) : D := .tup (r.map entD)
def tabL (t : Tab) : D := .lst (t.map rowL)
def tabT (t : Tab) : D := .tup (t.map rowT)
def EntOk (st sg : Nat) : Ent → Prop
  | none => True
  | some (w, _, s) => (0 ≤ w ∧ w < sg) ∧ 0 ≤ s ∧ s < st
structure TabOk (t : Tab) (st sg : Nat) : Prop where
  st0 : 0 < st
  sg0 : 0 < sg
  stS : st ≤ 1000
  sgS : sg ≤ 1000
  len : t.length = st
  row : ∀ r ∈ t, r.length = sg ∧ ∀ e ∈ r, EntOk st sg e
/-- cells that are not blank -/
abbrev Cells := List (Int × Int)
def cK (c : Cells) : List (Key × D) := c.map fun x => (.inl x.1, .int x.2)
def cD (c : Cells) : D := .dct (cK c)
def cGet (c : Cells) (p : Int) : Option Int := (c.find? fun x => decide (x.1 = p)).map (·.2)
def cAt (c : Cells) (p : Int) : Int := (cGet c p).getD 0
def cPut (c : Cells) (p s : Int) : Cells := if (c.any fun x => decide (x.1 = p)) = true then c.map (fun x => if x.1 = p then (x.1, s) else x) else c ++ [(p, s)]
def cDrop (c : Cells) (p : Int) : Cells := c.filter fun x => decide (x.1 ≠ p)
/-- a configuration: state, place, cells -/
structure Cf where
  q : Int
  p : Int
  c : Cells
def rowAt (t : Tab) (q : Int) : List Ent := t.getD q.toNat []
def entAt (t : Tab) (q s : Int) : Ent := (rowAt t q).getD s.toNat none
def stepC (t : Tab) (x : Cf) : Option Cf := match entAt t x.q (cAt x.c x.p) with
  | none => none
  | some (w, r, s) => some ⟨s, if r then x.p + 1 else x.p - 1, if w = 0 then cDrop x.c x.p else cPut x.c x.p w⟩
structure CfOk (x : Cf) (st sg : Nat) : Prop where
  q0 : 0 ≤ x.q
  q1 : x.q < st
  c0 : ∀ y ∈ x.c, 0 ≤ y.2 ∧ y.2 < sg
def runD (A : Cs) (t : Tab) (x : Cf) : D := .obj A.C_Run [("table", tabT t), ("state", .int x.q), ("place", .int x.p), ("cells", cD x.c)]
def machD (A : Cs) (t : Tab) : D := .obj A.C_Machine [("table", tabT t)]
/-- so many steps, or as many as there are -/
def runC (t : Tab) : Nat → Cf → Nat × Cf
  | 0, x => (0, x)
  | n + 1, x => match stepC t x with
    | none => (0, x)
    | some y => ((runC t n y).1 + 1, (runC t n y).2)
def cf0 : Cf := ⟨0, 0, []⟩
/-- a shot as the program tells it -/
def marksD (c : Cells) : D := .tup (c.map fun x => .tup [.int x.1, .int x.2])
def SortedOf (m c : Cells) : Prop := m.Perm c ∧ m.Pairwise fun a b => a.1 ≤ b.1
def shotD (q p : Int) (m : Cells) : D := .tup [.int q, .int p, marksD m]
/-! ### the promises -/
/-- whether a plain thing is a number below n -/
def numB (n : Int) : D → Bool
  | .int x => decide (0 ≤ x ∧ x < n)
  | _ => false
/-- a plain thing: no dict, no instance -/
def plB : D → Bool
  | .int _ => true
  | .bl _ => true
  | .non => true
  | .str _ => true
  | .tup _ => true
  | .lst _ => true
  | _ => false
def W_is_number (A : Cs) : DF := fun ds P => ∃ (d : D) (n : Int), ds = [d, .int n] ∧ plB d = true ∧ P.ok (.fz, .bl (numB n d)) ds
@[simp ↓] theorem W_is_number_eq {A : Cs} {x n : Int} {P : Pf} : W_is_number A [.int x, .int n] P = P.ok (.fz, .bl (decide (0 ≤ x ∧ x < n))) [.int x, .int n] := by
  apply propext
  constructor
  · rintro ⟨d, m, e, _, h⟩
    cases e
    exact h
  · exact fun h => ⟨_, _, rfl, rfl, h⟩
@[simp ↓] theorem W_is_number_bl {A : Cs} {b : Bool} {n : Int} {P : Pf} : W_is_number A [.bl b, .int n] P = P.ok (.fz, .bl false) [.bl b, .int n] := by
  apply propext
  constructor
  · rintro ⟨d, m, e, _, h⟩
    cases e
    exact h
  · exact fun h => ⟨_, _, rfl, rfl, h⟩
def W_entry_kept (A : Cs) : DF := fun ds P => ∃ (e : Ent) (st sg : Nat), ds = [entD e, .int st, .int sg] ∧ EntOk st sg e ∧ P.ok (.fz, entD e) ds
def W_Machine_init (A : Cs) : DF := fun ds P => ∃ (t : Tab) (st sg : Nat) (C : Addr), ds = [.obj A.C_Machine [], tabL t] ∧ TabOk t st sg ∧ P.ok (.fz, .non) [machD A t, tabL t]
def W_states_of (A : Cs) : DF := fun ds P => ∃ t : Tab, ds = [machD A t] ∧ P.ok (.fz, .int t.length) ds
def W_signs_of (A : Cs) : DF := fun ds P => ∃ (t : Tab) (st sg : Nat), ds = [machD A t] ∧ TabOk t st sg ∧ P.ok (.fz, .int sg) ds
/-- marks: signs within, places that rise -/
def MarksOk (sg : Nat) (m : Cells) : Prop := (∀ y ∈ m, 0 < y.2 ∧ y.2 < sg) ∧ m.Pairwise fun a b => a.1 < b.1
def ShotOk (st sg : Nat) (q : Int) (m : Cells) : Prop := (0 ≤ q ∧ q < st) ∧ MarksOk sg m
def W_ask_shot (A : Cs) : DF := fun ds P => ∃ (t : Tab) (st sg : Nat) (q p : Int) (m : Cells), ds = [machD A t, shotD q p m] ∧ TabOk t st sg ∧ ((ShotOk st sg q m ∧ P.ok (.fz, .non) ds) ∨ (¬ ShotOk st sg q m ∧ P.ex A.C_NoShot [] ds))
def W_Run_init (A : Cs) : DF := fun ds P => ∃ (t : Tab) (q p : Int) (m : Cells), ds = [.obj A.C_Run [], machD A t, shotD q p m] ∧ (m.length ≤ 50000 ∧ m.Pairwise fun a b => a.1 < b.1) ∧ P.ok (.fz, .non) [runD A t ⟨q, p, m⟩, machD A t, shotD q p m]
def W_Run_step (A : Cs) : DF := fun ds P => ∃ (t : Tab) (st sg : Nat) (x : Cf), ds = [runD A t x] ∧ TabOk t st sg ∧ CfOk x st sg ∧ x.c.length ≤ 90000 ∧ match stepC t x with
  | none => P.ok (.fz, .bl false) [runD A t x]
  | some y => P.ok (.fz, .bl true) [runD A t y]
def W_Run_shot (A : Cs) : DF := fun ds P => ∃ (t : Tab) (x : Cf), ds = [runD A t x] ∧ (x.c.map (·.1)).Nodup ∧ x.c.length ≤ 90000 ∧ ∀ m, SortedOf m x.c → P.ok (.fz, shotD x.q x.p m) [runD A t x]
def W_ran (A : Cs) : DF := fun ds P => ∃ (t : Tab) (st sg : Nat) (x : Cf) (n : Int), ds = [runD A t x, .int n] ∧ TabOk t st sg ∧ CfOk x st sg ∧ (n ≤ 10000 ∧ x.c.length ≤ 50000) ∧ P.ok (.fz, .int ((runC t n.toNat x).1 : Nat)) [runD A t (runC t n.toNat x).2, .int n]
def W_after_from (A : Cs) : DF := fun ds P => ∃ (t : Tab) (st sg : Nat) (q p : Int) (c : Cells) (n : Int), ds = [machD A t, shotD q p c, .int n] ∧ TabOk t st sg ∧ (n ≤ 10000 ∧ c.length ≤ 50000) ∧
  ((ShotOk st sg q c ∧ ∀ m, SortedOf m (runC t n.toNat ⟨q, p, c⟩).2.c → P.ok (.fz, .tup [shotD (runC t n.toNat ⟨q, p, c⟩).2.q (runC t n.toNat ⟨q, p, c⟩).2.p m, .int ((runC t n.toNat ⟨q, p, c⟩).1 : Nat)]) ds) ∨ (¬ ShotOk st sg q c ∧ P.ex A.C_NoShot [] ds))
def W_after (A : Cs) : DF := fun ds P => ∃ (t : Tab) (st sg : Nat) (n : Int), ds = [machD A t, .int n] ∧ TabOk t st sg ∧ n ≤ 10000 ∧
  ∀ m, SortedOf m (runC t n.toNat cf0).2.c → P.ok (.fz, .tup [shotD (runC t n.toNat cf0).2.q (runC t n.toNat cf0).2.p m, .int ((runC t n.toNat cf0).1 : Nat)]) ds
def endE (t : Tab) (x : Cf) : Bool := (stepC t x).isNone
def W_stops_at (A : Cs) : DF := fun ds P => ∃ (t : Tab) (st sg : Nat) (n : Int), ds = [machD A t, .int n] ∧ TabOk t st sg ∧ n ≤ 10000 ∧
  P.ok (.fz, if 0 ≤ n ∧ endE t (runC t n.toNat cf0).2 = true then .int ((runC t n.toNat cf0).1 : Nat) else .non) ds
/-! one form each -/
theorem entD_inj : ∀ {a b : Ent}, entD a = entD b → a = b
  | none, none, _ => rfl
  | none, some _, h => by simp [entD] at h
  | some _, none, h => by simp [entD] at h
  | some (a, b, c), some (d, e, f), h => by
    simp only [entD, D.tup.injEq, List.cons.injEq, D.int.injEq, D.str.injEq, and_true] at h
    obtain ⟨rfl, h, rfl⟩ := h
    have : b = e := by cases b <;> cases e <;> first | rfl | simp [wayS] at h
    rw [this]
theorem map_inj' {α β : Type} {f : α → β} (h : ∀ {a b}, f a = f b → a = b) : ∀ {xs ys : List α}, xs.map f = ys.map f → xs = ys
  | [], [], _ => rfl
  | [], _ :: _, e => by simp at e
  | _ :: _, [], e => by simp at e
  | x :: xs, y :: ys, e => by
    simp only [List.map_cons, List.cons.injEq] at e
    rw [h e.1, map_inj' h e.2]
theorem rowT_inj {a b : List Ent} (h : rowT a = rowT b) : a = b := map_inj' entD_inj (by simpa [rowT] using h)
theorem rowL_inj {a b : List Ent} (h : rowL a = rowL b) : a = b := map_inj' entD_inj (by simpa [rowL] using h)
@[simp] theorem tabT_inj {a b : Tab} : tabT a = tabT b ↔ a = b := ⟨fun h => map_inj' (f := rowT) rowT_inj (by simpa [tabT] using h), fun h => h ▸ rfl⟩
@[simp] theorem tabL_inj {a b : Tab} : tabL a = tabL b ↔ a = b := ⟨fun h => map_inj' (f := rowL) rowL_inj (by simpa [tabL] using h), fun h => h ▸ rfl⟩
@[simp] theorem machD_inj {A : Cs} {a b : Tab} : machD A a = machD A b ↔ a = b := by simp [machD]
theorem cK_inj {a b : Cells} (h : cK a = cK b) : a = b := map_inj' (f := fun x : Int × Int => ((.inl x.1, .int x.2) : Key × D)) (fun {x y} e => by
  obtain ⟨x1, x2⟩ := x
  obtain ⟨y1, y2⟩ := y
  simpa using e) h
@[simp] theorem cD_inj {a b : Cells} : cD a = cD b ↔ a = b := ⟨fun h => cK_inj (by simpa [cD] using h), fun h => h ▸ rfl⟩
@[simp] theorem marksD_inj {a b : Cells} : marksD a = marksD b ↔ a = b := ⟨fun h => map_inj' (f := fun x : Int × Int => D.tup [.int x.1, .int x.2]) (fun {x y} e => by
  obtain ⟨x1, x2⟩ := x
  obtain ⟨y1, y2⟩ := y
  simpa using e) (by simpa [marksD] using h), fun h => h ▸ rfl⟩
@[simp] theorem shotD_inj {a b c d : Int} {m n : Cells} : shotD a b m = shotD c d n ↔ a = c ∧ b = d ∧ m = n := by simp [shotD]
@[simp] theorem runD_inj {A : Cs} {a b : Tab} {x y : Cf} : runD A a x = runD A b y ↔ a = b ∧ x = y := by
  obtain ⟨x1, x2, x3⟩ := x
  obtain ⟨y1, y2, y3⟩ := y
  simp [runD]
/-! ### the law's own -/
def W__law_next (A : Cs) : DF := fun ds P => match ds with
  | [.scr ns, .lst [.int a]] => (0 ≤ a ∧ a ≤ 1000000000) ∧ ∀ m : Int, 0 ≤ m → m < 1999999973 → P.ok (.fz, .int m) [.scr ns, .lst [.int (a + 1)]]
  | _ => False
@[simp ↓] theorem W__law_next_eq {A : Cs} {ns : List Int} {a : Int} {P : Pf} : W__law_next A [.scr ns, .lst [.int a]] P = ((0 ≤ a ∧ a ≤ 1000000000) ∧ ∀ m : Int, 0 ≤ m → m < 1999999973 → P.ok (.fz, .int m) [.scr ns, .lst [.int (a + 1)]]) := rfl
end My

namespace My
open PySem PySem.Spec PyProof.Rows L2 VL
/-! ### cells -/
/-! ### tables -/
theorem rowAt_get {t : Tab} {st sg : Nat} {q : Int} (h : TabOk t st sg) (h1 : 0 ≤ q) (h2 : q < st) : t[q.toNat]? = some (rowAt t q) := by
  have hq : q.toNat < t.length := by rw [h.len]; omega
  unfold rowAt
  simp [List.getD, hq]
theorem rowAt_mem {t : Tab} {st sg : Nat} {q : Int} (h : TabOk t st sg) (h1 : 0 ≤ q) (h2 : q < st) : rowAt t q ∈ t := List.mem_of_getElem? (rowAt_get h h1 h2)
theorem row_len {t : Tab} {st sg : Nat} {q : Int} (h : TabOk t st sg) (h1 : 0 ≤ q) (h2 : q < st) : (rowAt t q).length = sg := (h.row _ (rowAt_mem h h1 h2)).1
theorem ixN_of {n : Nat} {i : Int} (h1 : 0 ≤ i) (h2 : i < n) : ixN n i = some i.toNat := by simp [ixN, h1, h2]
theorem atI_of {α : Type} {xs : List α} {i : Int} (h1 : 0 ≤ i) (h2 : i < xs.length) : L2.atI xs i = xs[i.toNat]? := by
  unfold L2.atI
  rw [ixN_of h1 h2]
  rfl
theorem atI_row {g : List Ent → D} {t : Tab} {st sg : Nat} {q : Int} (h : TabOk t st sg) (h1 : 0 ≤ q) (h2 : q < st) : L2.atI (t.map g) q = some (g (rowAt t q)) := by
  rw [atI_of h1 (by rw [List.length_map, h.len]; omega), List.getElem?_map, rowAt_get h h1 h2]
  rfl
theorem cGet_of : ∀ {c : Cells}, (c.map (·.1)).Nodup → ∀ y ∈ c, cGet c y.1 = some y.2
  | [], _, _, h => nomatch h
  | x :: c, hn, y, h => by
    rw [List.map_cons] at hn
    have hn := List.nodup_cons.mp hn
    unfold cGet
    rcases List.mem_cons.mp h with rfl | h
    · simp
    · have ne : ¬ x.1 = y.1 := fun e => hn.1 (by rw [e]; exact List.mem_map.mpr ⟨y, h, rfl⟩)
      rw [List.find?_cons]
      have h2 : decide (x.1 = y.1) = false := by simp [ne]
      rw [h2]
      exact cGet_of hn.2 y h
theorem cAt_of {c : Cells} (hn : (c.map (·.1)).Nodup) {y : Int × Int} (h : y ∈ c) : cAt c y.1 = y.2 := by
  unfold cAt
  rw [cGet_of hn y h]
  rfl
theorem keys_back {c : Cells} (hn : (c.map (·.1)).Nodup) : (c.map (·.1)).map (fun p => (p, cAt c p)) = c := by
  rw [List.map_map]
  have : ∀ y ∈ c, ((fun p => (p, cAt c p)) ∘ fun x : Int × Int => x.1) y = y := fun y hy => by
    show (y.1, cAt c y.1) = y
    rw [cAt_of hn hy]
  rw [List.map_congr_left this]
  simp
theorem sorted_keys {c : Cells} (hn : (c.map (·.1)).Nodup) {ns : List Int} (h1 : ns.Perm (c.map (·.1))) (h2 : ns.Pairwise (· ≤ ·)) : SortedOf (ns.map fun p => (p, cAt c p)) c := by
  refine ⟨?_, ?_⟩
  · have := h1.map fun p => (p, cAt c p)
    rwa [keys_back hn] at this
  · exact List.pairwise_map.mpr h2
/-! the program's things as they are read -/
section
variable {A : Cs} {t : Tab} {x : Cf} {i : Nat} {p : List Nat} {q : Kd × D → Prop} {m : Str}
@[simp ↓] theorem fld_mach : fldK A.C_Machine (Str.ofString "table") 0 (.fz, machD A t) q = q (.fz, tabT t) := by simp [machD]
@[simp ↓] theorem fld_run0 : fldK A.C_Run (Str.ofString "table") 0 (.bor i p (.O [.F, .F, .F, .K]), runD A t x) q = q (.fz, tabT t) := by simp [runD]
@[simp ↓] theorem fld_run1 : fldK A.C_Run (Str.ofString "state") 1 (.bor i p (.O [.F, .F, .F, .K]), runD A t x) q = q (.fz, .int x.q) := by simp [runD]
@[simp ↓] theorem fld_run2 : fldK A.C_Run (Str.ofString "place") 2 (.bor i p (.O [.F, .F, .F, .K]), runD A t x) q = q (.fz, .int x.p) := by simp [runD]
@[simp ↓] theorem fld_run3 : fldK A.C_Run (Str.ofString "cells") 3 (.bor i p (.O [.F, .F, .F, .K]), runD A t x) q = q (.bor i (p ++ [3]) .K, cD x.c) := by simp [runD]
@[simp ↓] theorem obj_run : objOk A.C_Run m (runD A t x) = (([Str.ofString "table", Str.ofString "state", Str.ofString "place", Str.ofString "cells"] : List Str).contains m = false) := by simp [runD]
end
end My

namespace My
open PySem PySem.Spec PyProof.Rows L2 VL
/-! ### the law's own functions of the runs' laws -/
def cfD (x : Cf) : D := .tup [.int x.q, .int x.p, cD x.c]
@[simp] theorem cfD_inj {x y : Cf} : cfD x = cfD y ↔ x = y := by
  obtain ⟨x1, x2, x3⟩ := x
  obtain ⟨y1, y2, y3⟩ := y
  simp [cfD]
def rowC (t : Tab) : Nat → Cf → List Cf
  | 0, x => [x]
  | n + 1, x => x :: match stepC t x with
    | none => []
    | some y => rowC t n y
def W__law_table (A : Cs) : DF := fun ds P => ∃ (ns : List Int) (a : Int) (st sg : Nat), ds = [.scr ns, .lst [.int a], .int st, .int sg] ∧ (0 ≤ a ∧ a ≤ 900000000) ∧ (0 < st ∧ st ≤ 100) ∧ (0 < sg ∧ sg ≤ 100) ∧
  ∀ (t : Tab) (a' : Int), TabOk t st sg → a ≤ a' → a' ≤ a + 10000 → P.ok (.new (.L (.L .F)), tabL t) [.scr ns, .lst [.int a'], .int st, .int sg]
def W__law_step (A : Cs) : DF := fun ds P => ∃ (t : Tab) (st sg : Nat) (x : Cf), ds = [tabL t, cfD x] ∧ TabOk t st sg ∧ CfOk x st sg ∧ x.c.length ≤ 50000 ∧ match stepC t x with
  | none => P.ok (.fz, .non) ds
  | some y => P.ok (.fz, cfD y) ds
def W__law_run (A : Cs) : DF := fun ds P => ∃ (t : Tab) (st sg : Nat) (x : Cf) (n : Nat), ds = [tabL t, cfD x, .int n] ∧ TabOk t st sg ∧ CfOk x st sg ∧ (x.c.length ≤ 10000 ∧ n ≤ 10000) ∧ P.ok (.new (.L .F), .lst ((rowC t n x).map cfD)) ds
open PySem PySem.Spec PyProof.Rows L2 VL
/-! ### k06 -/
theorem sorted_unique {c m m' : Cells} (hn : (c.map (·.1)).Nodup) (h : SortedOf m c) (h' : SortedOf m' c) : m = m' := by
  have key : ∀ {x y : Int × Int}, x ∈ c → y ∈ c → x.1 = y.1 → x = y := fun {x y} hx hy e => by
    have e1 := cAt_of hn hx
    have e2 := cAt_of hn hy
    rw [e] at e1
    exact Prod.ext e (e1.symm.trans e2)
  refine List.Perm.eq_of_pairwise (le := fun a b => a.1 ≤ b.1) (fun a b ha hb h1 h2 => ?_) h.2 h'.2 (h.1.trans h'.1.symm)
  exact key (h.1.mem_iff.mp ha) (h'.1.mem_iff.mp hb) (by omega)
/-- the marks in their order -/
def sortC (c : Cells) : Cells := ((c.map (·.1)).mergeSort (fun a b => decide (a ≤ b))).map fun p => (p, cAt c p)
theorem sortC_of {c : Cells} (hn : (c.map (·.1)).Nodup) : SortedOf (sortC c) c := by
  refine sorted_keys hn (List.mergeSort_perm _ _) ?_
  have := List.pairwise_mergeSort (le := fun a b : Int => decide (a ≤ b)) (fun a b c => by simp; omega) (fun a b => by simp; omega) (c.map (·.1))
  exact this.imp fun h => by simpa using h
theorem sortC_eq {c m : Cells} (hn : (c.map (·.1)).Nodup) (h : SortedOf m c) : m = sortC c := sorted_unique hn h (sortC_of hn)
def shotC (x : Cf) : D := shotD x.q x.p (sortC x.c)
def W__law_shot (A : Cs) : DF := fun ds P => ∃ x : Cf, ds = [cfD x] ∧ (x.c.map (·.1)).Nodup ∧ x.c.length ≤ 90000 ∧ P.ok (.fz, shotC x) ds
def W_law (A : Cs) : DF := fun ds P => ∃ ns : List Int, ds = [.scr ns] ∧ ns.length ≤ 63 ∧ P.ok (.fz, .bl true) ds

/-! ### papers of rounds -/
def roundB (p : D) (k : Str) : Bool := match p with
  | .tup [a, .int x, .int y] => eqX a (.str k) && decide (0 ≤ x ∧ x < y)
  | _ => false
def W_is_round (A : Cs) : DF := fun ds P => ∃ (p : D) (k : Str), ds = [p, .str k] ∧ pdK 50 p = true ∧ PyData.strOk k = true ∧ P.ok (.fz, .bl (roundB p k)) ds
/-- the shots are the same -/
def sameS (x y : Cf) : Prop := x.q = y.q ∧ x.p = y.p ∧ sortC x.c = sortC y.c
instance {x y : Cf} : Decidable (sameS x y) := inferInstanceAs (Decidable (_ ∧ _ ∧ _))
/-- a paper of the kind same, of two numbers, is taken -/
def sameT (t : Tab) (x y : Nat) : Bool := decide ((runC t y cf0).1 = y ∧ sameS (runC t x cf0).2 (runC t y cf0).2)
def natD (p : D) (j : Nat) : Nat := match p with
  | .tup xs => match xs[j]? with
    | some (.int x) => x.toNat
    | _ => 0
  | _ => 0
def W_takes_same (A : Cs) : DF := fun ds P => ∃ (t : Tab) (st sg : Nat) (p : D), ds = [machD A t, p] ∧ TabOk t st sg ∧ pdK 50 p = true ∧ natD p 2 ≤ 10000 ∧ P.ok (.fz, .bl (roundB p "same" && sameT t (natD p 1) (natD p 2))) ds
/-! longer runs in two parts -/
/-! ### the same but for the order of the marks -/
structure Sim (x y : Cf) : Prop where
  q : x.q = y.q
  p : x.p = y.p
  c : x.c.Perm y.c
  n : (x.c.map (·.1)).Nodup
theorem Sim.same {x y : Cf} (h : Sim x y) : sameS x y := by
  have hy : (y.c.map (·.1)).Nodup := (h.c.map (·.1)).nodup_iff.mp h.n
  refine ⟨h.q, h.p, ?_⟩
  have h1 := sortC_of h.n
  exact sortC_eq hy ⟨h1.1.trans h.c, h1.2⟩
def W__law_machine_by (A : Cs) : DF := fun ds P => ∃ (ns : List Int) (a : Int), ds = [.scr ns, .lst [.int a]] ∧ (0 ≤ a ∧ a ≤ 800000000) ∧
  ∀ (t : Tab) (st sg : Nat) (a' : Int), TabOk t st sg → st ≤ 5 → sg ≤ 8 → a ≤ a' → a' ≤ a + 20000 → P.ok (.new (.L (.L .F)), tabL t) [.scr ns, .lst [.int a']]
/-! calls, as they come -/
section
variable {A : Cs} {t : Tab} {st sg : Nat} {P : Pf}
theorem init_i {q p : Int} {m : Cells} (hl : m.length ≤ 50000) (hp : m.Pairwise fun a b => a.1 < b.1) (h : P.ok (.fz, .non) [runD A t ⟨q, p, m⟩, machD A t, shotD q p m]) : W_Run_init A [.obj A.C_Run [], machD A t, shotD q p m] P := ⟨t, q, p, m, rfl, ⟨hl, hp⟩, h⟩
end
end My

namespace My
open PySem PySem.Spec PyProof.Rows L2 VL
/-! ### shifted rounds -/
/-- cells of a bounded part of the row, none blank -/
structure Near (n : Nat) (x : Cf) : Prop where
  p : -(n : Int) ≤ x.p ∧ x.p ≤ n
  c : ∀ y ∈ x.c, y.2 ≠ 0 ∧ -(n : Int) ≤ y.1 ∧ y.1 ≤ n
  n : (x.c.map (·.1)).Nodup
theorem Near.le {n m : Nat} {x : Cf} (h : Near n x) (e : n ≤ m) : Near m x := ⟨by have := h.p; omega, fun y hy => by have := h.c y hy; omega, h.n⟩
/-- the marks seen from the place, some of them -/
def relC (x : Cf) (f : Int → Bool) : Cells := ((sortC x.c).filter fun y => f (y.1 - x.p)).map fun y => (y.1 - x.p, y.2)
/-- how far the way goes -/
def minP (t : Tab) (x : Cf) : Nat → Int
  | 0 => x.p
  | k + 1 => if (runC t (k + 1) x).2.p < minP t x k then (runC t (k + 1) x).2.p else minP t x k
def maxP (t : Tab) (x : Cf) : Nat → Int
  | 0 => x.p
  | k + 1 => if maxP t x k < (runC t (k + 1) x).2.p then (runC t (k + 1) x).2.p else maxP t x k
def shB (x y : Cf) (lo hi : Int) : Bool := decide (x.q = y.q) && (!decide (x.p = y.p) && (if x.p < y.p then decide (relC x (fun o => decide (lo ≤ x.p + o)) = relC y fun o => decide (lo ≤ x.p + o)) else decide (relC x (fun o => decide (x.p + o ≤ hi)) = relC y fun o => decide (x.p + o ≤ hi))))
def shiftT (t : Tab) (f l : Nat) : Bool := decide ((runC t l cf0).1 = l) && shB (runC t f cf0).2 (runC t l cf0).2 (minP t (runC t f cf0).2 (l - f)) (maxP t (runC t f cf0).2 (l - f))
def cellsD (c : Cells) : D := .lst (c.map fun y => .tup [.int y.1, .int y.2])
def W_cells_from (A : Cs) : DF := fun ds P => ∃ (x : Cf) (e w : Int), ds = [shotC x, .int e, .int w] ∧ (w = 1 ∨ w = -1) ∧ (x.c.map (·.1)).Nodup ∧ x.c.length ≤ 90000 ∧ P.ok (.new (.L .F), cellsD (relC x fun o => decide (0 ≤ (o - e) * w))) ds
def W_is_shifted (A : Cs) : DF := fun ds P => ∃ (x y : Cf) (lo hi : Int), ds = [shotC x, shotC y, .int lo, .int hi] ∧ ((x.c.map (·.1)).Nodup ∧ x.c.length ≤ 90000) ∧ ((y.c.map (·.1)).Nodup ∧ y.c.length ≤ 90000) ∧ P.ok (.fz, .bl (shB x y (x.p - lo) (x.p + hi))) ds
def W_takes_shifted (A : Cs) : DF := fun ds P => ∃ (t : Tab) (st sg : Nat) (p : D), ds = [machD A t, p] ∧ TabOk t st sg ∧ pdK 50 p = true ∧ natD p 2 ≤ 10000 ∧ P.ok (.fz, .bl (roundB p "shifted" && shiftT t (natD p 1) (natD p 2))) ds
section
variable {A : Cs} {t : Tab} {st sg : Nat} {P : Pf}
end
end My

/-! divmod -/
namespace VL
open PySem PySem.Spec PyProof.Rows L2 RT RZ
section
variable {K : PySem.W.Frag}
def oDivmod : OL := fun xs q => two2 xs fun x y => intK x.2 y.2 fun i j => CDiv i j ∧ q (.fz, .tup [.int (i / j), .int (i % j)])
@[simp ↓] theorem oDivmod_c {k k' : Kd} {i j : Int} {q : Kd × D → Prop} : oDivmod [(k, .int i), (k', .int j)] q = (CDiv i j ∧ q (.fz, .tup [.int (i / j), .int (i % j)])) := rfl
end
end VL

/-! list(reversed(a list)), tuple(reversed(a list)) -/
namespace VL
open PySem PySem.Spec PyProof.Rows L2 RT RZ
section
variable {prog : Program} {w : World} {A : Around} {E : Value → Shared → Prop} {s : Shared}
end
def rLRev (K : PySem.W.Frag) : V → Hp → VK → Prop := fun v H Q => ∃ (a : Addr) (xs : List V), v = .ref a ∧ SqL K H a xs ∧ ∀ q, H q = none → Q (.ref q) (upd H q (.lst xs.reverse))
def rTRev (K : PySem.W.Frag) : V → Hp → VK → Prop := fun v H Q => ∃ (a : Addr) (xs : List V), v = .ref a ∧ SqL K H a xs ∧ ∀ q, H q = none → Q (.ref q) (upd H q (.tup xs.reverse))
section
variable {X : Cx}
end
section
variable {K : PySem.W.Frag} {W : WX}
def oLRev : O1 := fun x q => lstK x fun ds => q (.new (.L .F), .lst ds.reverse)
def oTRev : O1 := fun x q => lstK x fun ds => q (.fz, .tup ds.reverse)
@[simp ↓] theorem oLRev_b {i : Nat} {p : List Nat} {ds : List D} {q : Kd × D → Prop} : oLRev (.bor i p (.L .F), .lst ds) q = q (.new (.L .F), .lst ds.reverse) := rfl
@[simp ↓] theorem oLRev_f {ds : List D} {q : Kd × D → Prop} : oLRev (.fz, .lst ds) q = q (.new (.L .F), .lst ds.reverse) := rfl
end
end VL

/-! try: .. except C: .. without a name; x.f op= y -/
namespace VL
open PySem PySem.Spec PyProof.Rows L2 RT RZ
section
variable {K : PySem.W.Frag} {W : WX} {σ : L2.St} {H : Hp} {X : Cx} {Z : Ends} {E : En} {ρ : Rho}
def wTryO (C : Addr) (b su : DS) : DS := fun E ρ => b { E with ex := fun C' fl ρ' => (C' = C ∧ fl = []) ∧ su { E with ex := fun _ _ _ => False } ρ' } ρ
@[simp ↓] theorem wTryO_eq {C : Addr} {b su : DS} : wTryO C b su E ρ = b { E with ex := fun C' fl ρ' => (C' = C ∧ fl = []) ∧ su { E with ex := fun _ _ _ => False } ρ' } ρ := rfl
/-- x.f op= y, y a local name -/
def wAugF (i : Nat) (C : Addr) (f : Str) (j k : Nat) (g : Int → Int → Int) : DS := wPutF i C f j (wOp (oI0 g) (wFld C f j (wVar i)) (wVar k))
@[simp ↓] theorem wAugF_eq {i j k : Nat} {C : Addr} {f : Str} {g : Int → Int → Int} : wAugF i C f j k g = wPutF i C f j (wOp (oI0 g) (wFld C f j (wVar i)) (wVar k)) := rfl
end
end VL

/-! a thing of one's own lent as frozen while an expression runs whose answer holds no list -/
namespace VL
open PySem PySem.Spec PyProof.Rows L2 RT RZ
section
variable {K : PySem.W.Frag} {W : WX} {G G' H H' : Hp} {σ : L2.St} {X : Cx} {ρ : Rho} {S T : Sta}
def isLst : HO → Bool
  | .lst _ => true
  | _ => false
/-- no list within -/
def noL : Nat → D → Bool
  | _, .non => true
  | _, .bl _ => true
  | _, .int _ => true
  | _, .str _ => true
  | n + 1, .tup xs => xs.all (noL n)
  | n + 1, .dct kvs => kvs.all fun x => noL n x.2
  | n + 1, .obj _ fs => fs.all fun x => noL n x.2
  | _, _ => false
/-- .. within what is frozen of a thing held so -/
def noLM : Nat → Md → D → Bool
  | n, .F, d => noL n d
  | n + 1, .L m, .lst ds => ds.all (noLM n m)
  | n + 1, .O ms, .obj _ fs => decide (ms.length = fs.length) && (ms.zip fs).all fun x => noLM n x.1 x.2.2
  | n + 1, .K, .dct kvs => kvs.all fun x => noL n x.2
  | n + 1, .T ms, .tup ds => decide (ms.length = ds.length) && (ms.zip ds).all fun x => noLM n x.1 x.2
  | _, _, _ => false
abbrev KeepL (G G' : Hp) : Prop := ∀ a o, G a = some o → isLst o = false → G' a = some o
theorem KeepL.t (k : KeepL G G') {a : Addr} {xs : List V} (h : SqT K G a xs) : SqT K G' a xs := by
  rcases h with (h | ⟨o, h⟩) | h
  · exact .inl (.inl (k a _ h rfl))
  · exact .inl (.inr ⟨o, k a _ h rfl⟩)
  · exact .inr h
theorem Dt.noL (k : KeepL G G') : ∀ {n : Nat} {v : V} {d : D}, noL n d = true → Dt K G v d → Dt K G' v d
  | 0, v, d, h, x => by
    cases x with
    | non => exact .non
    | bl b => exact .bl b
    | int i => exact .int i
    | str i => exact .str i
    | lst _ _ => simp [VL.noL] at h
    | scr _ => simp [VL.noL] at h
    | tup _ _ => simp [VL.noL] at h
    | dct _ _ => simp [VL.noL] at h
    | exc _ => simp [VL.noL] at h
    | ndc _ _ => simp [VL.noL] at h
    | exf _ _ _ => simp [VL.noL] at h
    | obj _ _ _ => simp [VL.noL] at h
  | n + 1, v, d, h, x => by
    cases x with
    | non => exact .non
    | bl b => exact .bl b
    | int i => exact .int i
    | str i => exact .str i
    | lst _ _ => simp [VL.noL] at h
    | scr _ => simp [VL.noL] at h
    | exc _ => simp [VL.noL] at h
    | ndc _ _ => simp [VL.noL] at h
    | exf _ _ _ => simp [VL.noL] at h
    | tup h1 h2 =>
      rename_i a xs ds
      refine .tup (k.t h1) ?_
      have h' : ds.all (VL.noL n) = true := by simpa only [VL.noL] using h
      clear h1 h
      have h := h'
      clear h'
      induction ds generalizing xs with
      | nil => cases h2; exact .nil
      | cons d ds ih =>
        cases h2 with
        | cons q t =>
          simp only [List.all_cons, Bool.and_eq_true] at h
          exact .cons (Dt.noL k h.1 q) (ih t h.2)
    | dct h1 h2 =>
      rename_i a kvs ds
      refine .dct (h1.imp (fun z => k a _ z rfl) fun ⟨o, z⟩ => ⟨o, k a _ z rfl⟩) ?_
      have h' : (ds.all fun x => VL.noL n x.2) = true := by simpa only [VL.noL] using h
      clear h1 h
      have h := h'
      clear h'
      induction ds generalizing kvs with
      | nil => cases h2; exact .nil
      | cons d ds ih =>
        cases h2 with
        | cons q t =>
          simp only [List.all_cons, Bool.and_eq_true] at h
          exact .cons (Dt.noL k h.1 q) (ih t h.2)
    | obj h1 hn h2 =>
      rename_i a C dx fs ds
      refine .obj (k a _ h1 rfl) hn ?_
      have h' : (ds.all fun x => VL.noL n x.2) = true := by simpa only [VL.noL] using h
      clear h1 hn h
      have h := h'
      clear h'
      induction ds generalizing fs with
      | nil => cases h2; exact .nil
      | cons d ds ih =>
        cases h2 with
        | cons q t =>
          simp only [List.all_cons, Bool.and_eq_true] at h
          exact .cons (Dt.noL k h.1 q) (ih t h.2)
theorem DtK.noL (k : KeepL G G') {n : Nat} : ∀ {vs : List (Key × V)} {ds : List (Key × D)}, (ds.all fun x => VL.noL n x.2) = true → DtK K G vs ds → DtK K G' vs ds
  | _, _, _, .nil => .nil
  | _, _, h, .cons q t => by
    simp only [List.all_cons, Bool.and_eq_true] at h
    exact .cons (Dt.noL k h.1 q) (DtK.noL k h.2 t)
theorem R.noL (k : KeepL G G') : ∀ {n : Nat} {m : Md} {v : V} {d : D} {fp : List Addr}, noLM n m d = true → R K G H m v d fp → R K G' H m v d fp
  | 0, m, v, d, fp, h, x => by
    cases x with
    | F q => exact .F (q.noL k (n := 0) (by simpa only [noLM] using h))
    | L _ _ => simp [noLM] at h
    | K _ _ => simp [noLM] at h
    | N _ _ => simp [noLM] at h
    | M _ _ => simp [noLM] at h
    | O _ _ _ => simp [noLM] at h
    | P _ => simp [noLM] at h
    | T _ _ => simp [noLM] at h
    | A _ _ => simp [noLM] at h
  | n + 1, m, v, d, fp, h, x => by
    cases x with
    | F q => exact .F (q.noL k (n := n + 1) (by simpa only [noLM] using h))
    | L h1 h2 =>
      rename_i m a xs ds fp
      refine .L h1 ?_
      have h' : ds.all (noLM n m) = true := by simpa only [noLM] using h
      clear h1 h
      have h := h'
      clear h'
      induction ds generalizing xs fp with
      | nil => cases h2; exact .nil
      | cons d ds ih =>
        cases h2 with
        | cons q t =>
          simp only [List.all_cons, Bool.and_eq_true] at h
          exact .cons (R.noL k h.1 q) (ih t h.2)
    | N _ _ => simp [noLM] at h
    | M _ _ => simp [noLM] at h
    | K h1 h2 => exact .K h1 (h2.noL k (n := n) (by simpa only [noLM] using h))
    | O h1 hn h2 =>
      rename_i ms a C dx fs ds fp
      refine .O h1 hn ?_
      have h' : ((ms.zip ds).all fun x => noLM n x.1 x.2.2) = true := by
        simp only [noLM, Bool.and_eq_true] at h
        exact h.2
      clear h1 hn h
      have h := h'
      clear h'
      induction ds generalizing fs fp ms with
      | nil => cases h2; exact .nil
      | cons d ds ih =>
        cases h2 with
        | cons q t =>
          simp only [List.zip_cons_cons, List.all_cons, Bool.and_eq_true] at h
          exact .cons (R.noL k h.1 q) (ih t h.2)
    | P _ => simp [noLM] at h
    | A _ _ => simp [noLM] at h
    | T h1 h2 =>
      rename_i ms a xs ds
      refine .T (k _ _ h1 rfl) ?_
      have h' : ((ms.zip ds).all fun x => noLM n x.1 x.2) = true := by
        simp only [noLM, Bool.and_eq_true] at h
        exact h.2
      clear h1 h
      have h := h'
      clear h'
      induction ds generalizing xs fp ms with
      | nil => cases h2; exact .nil
      | cons d ds ih =>
        cases h2 with
        | cons q t =>
          simp only [List.zip_cons_cons, List.all_cons, Bool.and_eq_true] at h
          exact .cons (R.noL k h.1 q) (ih _ t h.2)
mutual
def isLm : Md → Bool
  | .F => true
  | .L m => isLm m
  | .T ms => isLms ms
  | _ => false
def isLms : List Md → Bool
  | [] => true
  | m :: ms => isLm m && isLms ms
end
mutual
theorem R.lists : ∀ {m : Md} {v : V} {d : D} {fp : List Addr}, isLm m = true → R K G H m v d fp → ∀ a ∈ fp, ∃ xs, H a = some (.lst xs)
  | _, _, _, _, _, .F _, _, h => nomatch h
  | _, _, _, _, e, .L h t, a, ha => by
    rcases List.mem_cons.mp ha with rfl | ha
    · exact ⟨_, h⟩
    · exact RA.lists (by simpa only [isLm] using e) t a ha
  | _, _, _, _, e, .T h t, a, ha => RS.lists (by simpa only [isLm] using e) t a ha
  | _, _, _, _, e, .K _ _, a, ha => by simp [isLm] at e
  | _, _, _, _, e, .A _ _, a, ha => by simp [isLm] at e
  | _, _, _, _, e, .N _ _, a, ha => by simp [isLm] at e
  | _, _, _, _, e, .M _ _, a, ha => by simp [isLm] at e
  | _, _, _, _, e, .O _ _ _, a, ha => by simp [isLm] at e
  | _, _, _, _, e, .P _, a, ha => by simp [isLm] at e
theorem RA.lists : ∀ {m : Md} {v : List V} {d : List D} {fp : List Addr}, isLm m = true → RA K G H m v d fp → ∀ a ∈ fp, ∃ xs, H a = some (.lst xs)
  | _, _, _, _, _, .nil, _, h => nomatch h
  | _, _, _, _, e, .cons h t, a, ha => (List.mem_append.mp ha).elim (R.lists e h a) (RA.lists e t a)
theorem RS.lists : ∀ {m : List Md} {v : List V} {d : List D} {fp : List Addr}, isLms m = true → RS K G H m v d fp → ∀ a ∈ fp, ∃ xs, H a = some (.lst xs)
  | _, _, _, _, _, .nil, _, h => nomatch h
  | _, _, _, _, e, .cons h t, a, ha => by
    simp only [isLms, Bool.and_eq_true] at e
    exact (List.mem_append.mp ha).elim (R.lists e.1 h a) (RS.lists e.2 t a)
end
def noLK (x : Kd × D) : Bool := match x.1 with
  | .fz => noL 40 x.2
  | .new m => noLM 40 m x.2
  | .bor _ _ _ => false
def lendK (ρ : Rho) (i : Nat) (q : Md → D → Prop) : Prop := match ρ[i]? with
  | some (some (m, d)) => isLm m = true ∧ q m d
  | _ => False
def wLend (i : Nat) (we : DE (Kd × D)) : DE (Kd × D) := fun ρ P => lendK ρ i fun _ d => we (ρ.set i (some (.F, d))) ⟨fun p x ρ' => (p = [] ∧ noLK x = true ∧ ρ' = ρ.set i (some (.F, d))) ∧ P.ok [] x ρ, fun _ _ _ => False⟩
@[simp ↓] theorem wLend_eq {i : Nat} {we : DE (Kd × D)} {P : Po (Kd × D)} : wLend i we ρ P = lendK ρ i fun _ d => we (ρ.set i (some (.F, d))) ⟨fun p x ρ' => (p = [] ∧ noLK x = true ∧ ρ' = ρ.set i (some (.F, d))) ∧ P.ok [] x ρ, fun _ _ _ => False⟩ := rfl
@[simp ↓] theorem lendK_0 {m : Md} {d : D} {q : Md → D → Prop} : lendK (some (m, d) :: ρ) 0 q = (isLm m = true ∧ q m d) := rfl
@[simp ↓] theorem lendK_s {x : Option (Md × D)} {i : Nat} {q : Md → D → Prop} : lendK (x :: ρ) (i + 1) q = lendK ρ i q := by simp [lendK]
@[simp ↓] theorem noLK_f {d : D} : noLK (.fz, d) = noL 40 d := rfl
@[simp ↓] theorem noLK_n {m : Md} {d : D} : noLK (.new m, d) = noLM 40 m d := rfl
end
end VL

/-! dicts of one's own lent as frozen while an expression runs whose answer holds no dict -/
namespace VL
open PySem PySem.Spec PyProof.Rows L2 RT RZ
section
variable {K : PySem.W.Frag} {W : WX} {G G' H H' : Hp} {σ : L2.St} {X : Cx} {ρ : Rho} {S T : Sta}
def isDic : HO → Bool
  | .dK _ => true
  | .dT _ => true
  | .ext _ => true
  | _ => false
/-- no dict within -/
def noD : Nat → D → Bool
  | _, .non => true
  | _, .bl _ => true
  | _, .int _ => true
  | _, .str _ => true
  | n + 1, .lst xs => xs.all (noD n)
  | n + 1, .tup xs => xs.all (noD n)
  | n + 1, .obj _ fs => fs.all fun x => noD n x.2
  | _, _ => false
/-- .. within what is frozen of a thing held so -/
def noDM : Nat → Md → D → Bool
  | n, .F, d => noD n d
  | n + 1, .L m, .lst ds => ds.all (noDM n m)
  | n + 1, .O ms, .obj _ fs => decide (ms.length = fs.length) && (ms.zip fs).all fun x => noDM n x.1 x.2.2
  | n + 1, .T ms, .tup ds => decide (ms.length = ds.length) && (ms.zip ds).all fun x => noDM n x.1 x.2
  | _, _, _ => false
abbrev KeepD (G G' : Hp) : Prop := ∀ a o, G a = some o → isDic o = false → G' a = some o
theorem KeepD.t (k : KeepD G G') {a : Addr} {xs : List V} (h : SqT K G a xs) : SqT K G' a xs := by
  rcases h with (h | ⟨o, h⟩) | h
  · exact .inl (.inl (k a _ h rfl))
  · exact .inl (.inr ⟨o, k a _ h rfl⟩)
  · exact .inr h
theorem Dt.noD (k : KeepD G G') : ∀ {n : Nat} {v : V} {d : D}, noD n d = true → Dt K G v d → Dt K G' v d
  | 0, v, d, h, x => by
    cases x with
    | non => exact .non
    | bl b => exact .bl b
    | int i => exact .int i
    | str i => exact .str i
    | lst _ _ => simp [VL.noD] at h
    | scr _ => simp [VL.noD] at h
    | tup _ _ => simp [VL.noD] at h
    | dct _ _ => simp [VL.noD] at h
    | exc _ => simp [VL.noD] at h
    | ndc _ _ => simp [VL.noD] at h
    | exf _ _ _ => simp [VL.noD] at h
    | obj _ _ _ => simp [VL.noD] at h
  | n + 1, v, d, h, x => by
    cases x with
    | non => exact .non
    | bl b => exact .bl b
    | int i => exact .int i
    | str i => exact .str i
    | scr _ => simp [VL.noD] at h
    | exc _ => simp [VL.noD] at h
    | ndc _ _ => simp [VL.noD] at h
    | exf _ _ _ => simp [VL.noD] at h
    | dct _ _ => simp [VL.noD] at h
    | tup h1 h2 =>
      rename_i a xs ds
      refine .tup (k.t h1) ?_
      have h' : ds.all (VL.noD n) = true := by simpa only [VL.noD] using h
      clear h1 h
      have h := h'
      clear h'
      induction ds generalizing xs with
      | nil => cases h2; exact .nil
      | cons d ds ih =>
        cases h2 with
        | cons q t =>
          simp only [List.all_cons, Bool.and_eq_true] at h
          exact .cons (Dt.noD k h.1 q) (ih t h.2)
    | lst h1 h2 =>
      rename_i a xs ds
      refine .lst (k _ _ h1 rfl) ?_
      have h' : ds.all (VL.noD n) = true := by simpa only [VL.noD] using h
      clear h1 h
      have h := h'
      clear h'
      induction ds generalizing xs with
      | nil => cases h2; exact .nil
      | cons d ds ih =>
        cases h2 with
        | cons q t =>
          simp only [List.all_cons, Bool.and_eq_true] at h
          exact .cons (Dt.noD k h.1 q) (ih t h.2)
    | obj h1 hn h2 =>
      rename_i a C dx fs ds
      refine .obj (k a _ h1 rfl) hn ?_
      have h' : (ds.all fun x => VL.noD n x.2) = true := by simpa only [VL.noD] using h
      clear h1 hn h
      have h := h'
      clear h'
      induction ds generalizing fs with
      | nil => cases h2; exact .nil
      | cons d ds ih =>
        cases h2 with
        | cons q t =>
          simp only [List.all_cons, Bool.and_eq_true] at h
          exact .cons (Dt.noD k h.1 q) (ih t h.2)
theorem R.noD (k : KeepD G G') : ∀ {n : Nat} {m : Md} {v : V} {d : D} {fp : List Addr}, noDM n m d = true → R K G H m v d fp → R K G' H m v d fp
  | 0, m, v, d, fp, h, x => by
    cases x with
    | F q => exact .F (q.noD k (n := 0) (by simpa only [noDM] using h))
    | L _ _ => simp [noDM] at h
    | K _ _ => simp [noDM] at h
    | N _ _ => simp [noDM] at h
    | M _ _ => simp [noDM] at h
    | O _ _ _ => simp [noDM] at h
    | P _ => simp [noDM] at h
    | T _ _ => simp [noDM] at h
    | A _ _ => simp [noDM] at h
  | n + 1, m, v, d, fp, h, x => by
    cases x with
    | F q => exact .F (q.noD k (n := n + 1) (by simpa only [noDM] using h))
    | L h1 h2 =>
      rename_i m a xs ds fp
      refine .L h1 ?_
      have h' : ds.all (noDM n m) = true := by simpa only [noDM] using h
      clear h1 h
      have h := h'
      clear h'
      induction ds generalizing xs fp with
      | nil => cases h2; exact .nil
      | cons d ds ih =>
        cases h2 with
        | cons q t =>
          simp only [List.all_cons, Bool.and_eq_true] at h
          exact .cons (R.noD k h.1 q) (ih t h.2)
    | N _ _ => simp [noDM] at h
    | M _ _ => simp [noDM] at h
    | K _ _ => simp [noDM] at h
    | O h1 hn h2 =>
      rename_i ms a C dx fs ds fp
      refine .O h1 hn ?_
      have h' : ((ms.zip ds).all fun x => noDM n x.1 x.2.2) = true := by
        simp only [noDM, Bool.and_eq_true] at h
        exact h.2
      clear h1 hn h
      have h := h'
      clear h'
      induction ds generalizing fs fp ms with
      | nil => cases h2; exact .nil
      | cons d ds ih =>
        cases h2 with
        | cons q t =>
          simp only [List.zip_cons_cons, List.all_cons, Bool.and_eq_true] at h
          exact .cons (R.noD k h.1 q) (ih t h.2)
    | P _ => simp [noDM] at h
    | A _ _ => simp [noDM] at h
    | T h1 h2 =>
      rename_i ms a xs ds
      refine .T (k _ _ h1 rfl) ?_
      have h' : ((ms.zip ds).all fun x => noDM n x.1 x.2) = true := by
        simp only [noDM, Bool.and_eq_true] at h
        exact h.2
      clear h1 h
      have h := h'
      clear h'
      induction ds generalizing xs fp ms with
      | nil => cases h2; exact .nil
      | cons d ds ih =>
        cases h2 with
        | cons q t =>
          simp only [List.zip_cons_cons, List.all_cons, Bool.and_eq_true] at h
          exact .cons (R.noD k h.1 q) (ih _ t h.2)
mutual
def isDm : Md → Bool
  | .F => true
  | .K => true
  | .N => true
  | .M m => isDm m
  | .P m => isDm m
  | .T ms => isDms ms
  | _ => false
def isDms : List Md → Bool
  | [] => true
  | m :: ms => isDm m && isDms ms
end
mutual
theorem R.dicts : ∀ {m : Md} {v : V} {d : D} {fp : List Addr}, isDm m = true → R K G H m v d fp → ∀ a ∈ fp, ∃ o, H a = some o ∧ isDic o = true
  | _, _, _, _, _, .F _, _, h => nomatch h
  | _, _, _, _, e, .K h t, a, ha => by
    rcases List.mem_cons.mp ha with rfl | ha
    · exact ⟨_, h, rfl⟩
    · exact nomatch ha
  | _, _, _, _, e, .N h t, a, ha => by
    rcases List.mem_cons.mp ha with rfl | ha
    · exact ⟨_, h, rfl⟩
    · exact nomatch ha
  | _, _, _, _, e, .M h t, a, ha => by
    rcases List.mem_cons.mp ha with rfl | ha
    · exact ⟨_, h, rfl⟩
    · exact RK.dicts (by simpa only [isDm] using e) t a ha
  | _, _, _, _, e, .T h t, a, ha => RS.dicts (by simpa only [isDm] using e) t a ha
  | _, _, _, _, e, .P h, a, ha => R.dicts (by simpa only [isDm] using e) h a ha
  | _, _, _, _, e, .L _ _, a, ha => by simp [isDm] at e
  | _, _, _, _, e, .A _ _, a, ha => by simp [isDm] at e
  | _, _, _, _, e, .O _ _ _, a, ha => by simp [isDm] at e
theorem RK.dicts : ∀ {m : Md} {v : List (Key × V)} {d : List (Key × D)} {fp : List Addr}, isDm m = true → RK K G H m v d fp → ∀ a ∈ fp, ∃ o, H a = some o ∧ isDic o = true
  | _, _, _, _, _, .nil, _, h => nomatch h
  | _, _, _, _, e, .cons h t, a, ha => (List.mem_append.mp ha).elim (R.dicts e h a) (RK.dicts e t a)
theorem RS.dicts : ∀ {m : List Md} {v : List V} {d : List D} {fp : List Addr}, isDms m = true → RS K G H m v d fp → ∀ a ∈ fp, ∃ o, H a = some o ∧ isDic o = true
  | _, _, _, _, _, .nil, _, h => nomatch h
  | _, _, _, _, e, .cons h t, a, ha => by
    simp only [isDms, Bool.and_eq_true] at e
    exact (List.mem_append.mp ha).elim (R.dicts e.1 h a) (RS.dicts e.2 t a)
end
def noDK (x : Kd × D) : Bool := match x.1 with
  | .fz => noD 40 x.2
  | .new m => noDM 40 m x.2
  | .bor _ _ _ => false
def lendDK (ρ : Rho) (i : Nat) (q : Md → D → Prop) : Prop := match ρ[i]? with
  | some (some (m, d)) => isDm m = true ∧ q m d
  | _ => False
def wLendD (i : Nat) (we : DE (Kd × D)) : DE (Kd × D) := fun ρ P => lendDK ρ i fun _ d => we (ρ.set i (some (.F, d))) ⟨fun p x ρ' => (p = [] ∧ noDK x = true ∧ ρ' = ρ.set i (some (.F, d))) ∧ P.ok [] x ρ, fun _ _ _ => False⟩
@[simp ↓] theorem wLendD_eq {i : Nat} {we : DE (Kd × D)} {P : Po (Kd × D)} : wLendD i we ρ P = lendDK ρ i fun _ d => we (ρ.set i (some (.F, d))) ⟨fun p x ρ' => (p = [] ∧ noDK x = true ∧ ρ' = ρ.set i (some (.F, d))) ∧ P.ok [] x ρ, fun _ _ _ => False⟩ := rfl
@[simp ↓] theorem lendDK_0 {m : Md} {d : D} {q : Md → D → Prop} : lendDK (some (m, d) :: ρ) 0 q = (isDm m = true ∧ q m d) := rfl
@[simp ↓] theorem lendDK_s {x : Option (Md × D)} {i : Nat} {q : Md → D → Prop} : lendDK (x :: ρ) (i + 1) q = lendDK ρ i q := by simp [lendDK]
@[simp ↓] theorem noDK_f {d : D} : noDK (.fz, d) = noD 40 d := rfl
@[simp ↓] theorem noDK_n {m : Md} {d : D} : noDK (.new m, d) = noDM 40 m d := rfl
end
end VL

/-! functions with defaults -/
namespace VL
open PySem PySem.Spec PyProof.Rows L2
section
variable {K : PySem.W.Frag} {S : Sta} {P : Program} {w : World} {mg : Str → Option Value} {base : Heap}
end
end VL

/-! tuples of one's own, that hold things of one's own -/
namespace VL
open PySem PySem.Spec PyProof.Rows L2
section
variable {K : PySem.W.Frag} {W : WX} {G G' H H' H0 : Hp} {σ : L2.St} {ρ : Rho} {f f' : Own} {pin : Nat → Option V} {X : Cx} {S S0 S1 S2 T T1 T2 U : Sta} {E : En} {Z : Ends}
/-- frozen things and new ones, of which no two share an address -/
inductive HasN (K : PySem.W.Frag) (S0 S : Sta) : List V → List (Kd × D) → List Addr → Prop
  | nil : HasN K S0 S [] [] []
  | fz {v : V} {d : D} {vs : List V} {ds : List (Kd × D)} {fp : List Addr} : Dt K S.G v d → HasN K S0 S vs ds fp → HasN K S0 S (v :: vs) ((.fz, d) :: ds) fp
  | new {m : Md} {v : V} {d : D} {fq : List Addr} {vs : List V} {ds : List (Kd × D)} {fp : List Addr} : R K S.G S.H m v d fq → fq.Nodup → (∀ a ∈ fq, S.G a = none ∧ ¬ Ow S.f a ∧ Nw S0 a) → (∀ a ∈ fq, a ∉ fp) → HasN K S0 S vs ds fp → HasN K S0 S (v :: vs) ((.new m, d) :: ds) (fq ++ fp)
theorem HasN.all {vs : List V} {ds : List (Kd × D)} {fp : List Addr} (h : HasN K S0 S vs ds fp) : fp.Nodup ∧ (∀ a ∈ fp, S.G a = none ∧ ¬ Ow S.f a ∧ Nw S0 a) ∧ ∀ a ∈ fp, S.H a ≠ none := by
  induction h with
  | nil => exact ⟨List.nodup_nil, fun _ h => (nomatch h), fun _ h => (nomatch h)⟩
  | fz _ _ ih => exact ih
  | new r n k dj _ ih =>
    refine ⟨List.nodup_append.mpr ⟨n, ih.1, fun a ha b hb c => dj a ha (c ▸ hb)⟩, fun a ha => ?_, fun a ha => ?_⟩
    · exact (List.mem_append.mp ha).elim (k a) (ih.2.1 a)
    · exact (List.mem_append.mp ha).elim (r.has a) (ih.2.2 a)
theorem HasN.from {vs : List V} {ds : List (Kd × D)} {fp : List Addr} (h : HasN K S0 T vs ds fp) (s : S.to S0) : HasN K S T vs ds fp := by
  induction h with
  | nil => exact .nil
  | fz h _ ih => exact .fz h ih
  | new r n k dj _ ih => exact .new r n (fun a ha => ⟨(k a ha).1, (k a ha).2.1, (k a ha).2.2.of s⟩) dj ih
theorem HasN.len {vs : List V} {ds : List (Kd × D)} {fp : List Addr} (h : HasN K S0 S vs ds fp) : vs.length = ds.length := by
  induction h with
  | nil => rfl
  | fz _ _ ih => simp [ih]
  | new _ _ _ _ _ ih => simp [ih]
abbrev lN : Rl (List V) (List (Kd × D)) := fun K S0 S vs xs => ∃ fp, HasN K S0 S vs xs fp
abbrev tn : PySem.W.Frag → WX → DE (List (Kd × D)) → TA := tgen lN
def isFN : Kd → Bool
  | .bor _ _ _ => false
  | _ => true
def wNilN : DE (List (Kd × D)) := fun ρ P => P.ok [] [] ρ
def wConsN (wa : DE (Kd × D)) (wr : DE (List (Kd × D))) : DE (List (Kd × D)) := fun ρ P => wa ρ ⟨fun p1 x ρ1 => wr ρ1 ⟨fun p2 xs ρ2 => isFN x.1 = true ∧ P.ok (p1 ++ p2) (x :: xs) ρ2, P.ex⟩, P.ex⟩
def mdN : Kd → Md
  | .new m => m
  | _ => .F
/-- (x, y, ..), some of them new things -/
def wTupO (wa : DE (List (Kd × D))) : DE (Kd × D) := fun ρ P => wa ρ ⟨fun p xs ρ' => small xs.length = true ∧ P.ok p (.new (.T (xs.map fun x => mdN x.1)), .tup (xs.map (·.2))) ρ', P.ex⟩
theorem HasN.rs {vs : List V} {ds : List (Kd × D)} {fp : List Addr} (h : HasN K S0 S vs ds fp) (e : Ex S.G G') (k : ∀ a ∈ fp, ∀ o, S.H a = some o → H' a = some o) : RS K G' H' (ds.map fun x => mdN x.1) vs (ds.map (·.2)) fp := by
  induction h with
  | nil => exact .nil
  | fz h _ ih =>
    exact RS.cons (fp := []) (.F (h.mono e)) (ih k)
  | new r n kk dj _ ih => exact .cons (r.keep e fun a ha => k a (List.mem_append_left _ ha)) (ih fun a ha => k a (List.mem_append_right _ ha))
/-- a, b = x, y, new things -/
def parO (i j : Nat) (xs : List (Kd × D)) (ρ : Rho) (q : Rho → Prop) : Prop := match xs with
  | [(k1, d), (k2, e)] => (notP (mdN k1) = true ∧ notP (mdN k2) = true) ∧ okSlot ρ i = true ∧ okSlot (ρ.set i (some (mdN k1, d))) j = true ∧ q ((ρ.set i (some (mdN k1, d))).set j (some (mdN k2, e)))
  | _ => False
def wParO (i j : Nat) (wa : DE (List (Kd × D))) : DS := fun E ρ => wa ρ ⟨fun _ xs ρ' => parO i j xs ρ' E.nx, E.ex⟩
theorem HasN.one {v : V} {vs : List V} {x : Kd × D} {ds : List (Kd × D)} {fp : List Addr} (h : HasN K S0 S (v :: vs) (x :: ds) fp) : ∃ fq fr, fp = fq ++ fr ∧ R K S.G S.H (mdN x.1) v x.2 fq ∧ HasN K S0 S vs ds fr := by
  cases h with
  | fz h t => exact ⟨[], _, rfl, .F h, t⟩
  | new r n k dj t => exact ⟨_, _, rfl, r, t⟩
@[simp ↓] theorem wNilN_eq {P : Po (List (Kd × D))} : wNilN ρ P = P.ok [] [] ρ := rfl
@[simp ↓] theorem wConsN_eq {wa : DE (Kd × D)} {wr : DE (List (Kd × D))} {P : Po (List (Kd × D))} : wConsN wa wr ρ P = wa ρ ⟨fun p1 x ρ1 => wr ρ1 ⟨fun p2 xs ρ2 => isFN x.1 = true ∧ P.ok (p1 ++ p2) (x :: xs) ρ2, P.ex⟩, P.ex⟩ := rfl
@[simp ↓] theorem wTupO_eq {wa : DE (List (Kd × D))} {P : Po (Kd × D)} : wTupO wa ρ P = wa ρ ⟨fun p xs ρ' => small xs.length = true ∧ P.ok p (.new (.T (xs.map fun x => mdN x.1)), .tup (xs.map (·.2))) ρ', P.ex⟩ := rfl
@[simp ↓] theorem wParO_eq {i j : Nat} {wa : DE (List (Kd × D))} : wParO i j wa E ρ = wa ρ ⟨fun _ xs ρ' => parO i j xs ρ' E.nx, E.ex⟩ := rfl
@[simp ↓] theorem parO_eq {i j : Nat} {k1 k2 : Kd} {d e : D} {q : Rho → Prop} : parO i j [(k1, d), (k2, e)] ρ q = ((notP (mdN k1) = true ∧ notP (mdN k2) = true) ∧ okSlot ρ i = true ∧ okSlot (ρ.set i (some (mdN k1, d))) j = true ∧ q ((ρ.set i (some (mdN k1, d))).set j (some (mdN k2, e)))) := rfl
@[simp ↓] theorem isFN_f : isFN .fz = true := rfl
@[simp ↓] theorem isFN_n {m : Md} : isFN (.new m) = true := rfl
@[simp ↓] theorem mdN_f : mdN .fz = .F := rfl
@[simp ↓] theorem mdN_n {m : Md} : mdN (.new m) = m := rfl
@[simp ↓] theorem dSet_t {ds : List D} {j : Nat} {p : List Nat} {x : D} : dSet (.tup ds) (j :: p) x = match ds[j]? with
  | some d => .tup (ds.set j (dSet d p x))
  | none => .tup ds := by
  show (match ds[j]? with | some d' => setKid (.tup ds) j (dSet d' p x) | none => .tup ds) = _
  cases ds[j]? <;> rfl
@[simp ↓] theorem storeK_T {i : Nat} {ms : List Md} {d : D} {q : Rho → Prop} : storeK i (.new (.T ms), d) ρ q = stK i (.T ms, d) ρ q := by simp [storeK, notP]
@[simp ↓] theorem stK_T {ms : List Md} {d : D} {md : Md × D} {q : Rho → Prop} : stK 0 md (some (.T ms, d) :: ρ) q = q (some md :: ρ) := by simp [stK, okSlot]
@[simp ↓] theorem kAt_T {i : Nat} {p : List Nat} {ms : List Md} : kAt i p (.T ms) = .bor i p (.T ms) := rfl
@[simp ↓] theorem st_T {ms : List Md} : Md.st (.T ms) = .T ms := rfl
@[simp ↓] theorem notP_T {ms : List Md} : notP (.T ms) = true := rfl
@[simp ↓] theorem ixN_20 : ixN 2 0 = some 0 := by decide
@[simp ↓] theorem ixN_21 : ixN 2 1 = some 1 := by decide
@[simp ↓] theorem ixN_30 : ixN 3 0 = some 0 := by decide
@[simp ↓] theorem ixN_31 : ixN 3 1 = some 1 := by decide
@[simp ↓] theorem ixN_32 : ixN 3 2 = some 2 := by decide
/-! isinstance(x, (C1, C2, ..)) of a kept exception -/
def tCs : List V → TA
  | [] => tNil
  | c :: cs => tCons (tC c) (tCs cs)
theorem tCs_to : ∀ {cs : List V} {σ : L2.St} {H : Hp} {Q : List V → Hp → Prop}, Q cs H → tCs cs σ H Q
  | [], _, _, _, h => h
  | c :: cs, σ, H, Q, h => by
    show tCs cs σ H fun xs H2 => Q (c :: xs) H2
    exact tCs_to h
def rIsKM (K : PySem.W.Frag) : List V → Hp → VK → Prop := fun xs H Q => ∃ (a D tp : Addr) (cs : List V) (us : List Value) (b : Bool), xs = [.ref a, .ref tp] ∧ H a = some (VL.ExK (.ref D) a) ∧ ExcC K D ∧ H tp = some (.tup cs) ∧ Paired ClsV cs us ∧ PySem.W.kitAny K (.ref D) us = some b ∧ Q (.bl b) H
theorem kany_f {c : Value} {cs : List Value} {t : Value} (h : PySem.W.kitOne K t c = some false) (h2 : PySem.W.kitAny K t cs = some false) : PySem.W.kitAny K t (c :: cs) = some false := by
  unfold PySem.W.kitAny
  rw [h]
  exact h2
end
end VL

/-! dicts whose keys are nested tuples of whole numbers: the rules -/
namespace VL
open PySem PySem.Spec PyProof.Rows L2
section
variable {X : Cx} {pins : List (Addr × Obj)} {σ : L2.St} {H : Hp} {s : Shared}
abbrev NKeys (K : PySem.W.Frag) (H : Hp) (xs : List NEnt) : Prop := ∀ x ∈ xs, Dt K H (.ref x.2.1) (nkD x.1)
/-- what stands at a key -/
def atN (xs : List NEnt) (k : NestedKey) : Option V := (xs.find? fun x => decide (x.1 = k)).map (·.2.2)
def putN (xs : List NEnt) (k : NestedKey) (b : Addr) (v : V) : List NEnt :=
  if (atN xs k).isSome = true then xs.map (fun x => if x.1 = k then (x.1, x.2.1, v) else x) else xs ++ [(k, b, v)]
theorem NRel.val {xs : List NEnt} {ys : List (NestedKey × Addr × Value)} (r : Paired NRel xs ys) (k : NestedKey) : RelO (atN xs k) ((atKey ys k).map (·.2)) := by
  induction r with
  | nil => trivial
  | @cons p q l1 l2 h t ih =>
    unfold atN atKey at *
    by_cases c : p.1 = k
    · have c' : q.1 = k := by rw [← h.1]; exact c
      simp [List.find?_cons, c, c']
      exact h.2.2
    · have c' : ¬ q.1 = k := by rw [← h.1]; exact c
      simpa [List.find?_cons, c, c'] using ih
theorem NRel.some_iff {xs : List NEnt} {ys : List (NestedKey × Addr × Value)} (r : Paired NRel xs ys) (k : NestedKey) : (atN xs k).isSome = (atKey ys k).isSome := by
  have := (NRel.val r k).isSome_eq
  rwa [Option.isSome_map] at this
theorem NRel.putMap {xs : List NEnt} {ys : List (NestedKey × Addr × Value)} (r : Paired NRel xs ys) (k : NestedKey) {v : V} {u : Value} (rv : RelV v u) : Paired NRel (xs.map (fun x => if x.1 = k then (x.1, x.2.1, v) else x)) (ys.map (putAt k u)) := by
  induction r with
  | nil => exact .nil
  | @cons p q l1 l2 h t ih =>
    refine .cons ?_ ih
    show NRel (if p.1 = k then (p.1, p.2.1, v) else p) (putAt k u q)
    unfold putAt
    by_cases c : p.1 = k
    · have c' : q.1 = k := by rw [← h.1]; exact c
      rw [if_pos c, if_pos c']
      exact ⟨h.1, h.2.1, rv⟩
    · have c' : ¬ q.1 = k := by rw [← h.1]; exact c
      rw [if_neg c, if_neg c']
      exact h
theorem NRel.put {xs : List NEnt} {ys : List (NestedKey × Addr × Value)} (r : Paired NRel xs ys) (k : NestedKey) (b : Addr) {v : V} {u : Value} (rv : RelV v u) : Paired NRel (putN xs k b v) (storedH ys k b u) := by
  unfold putN storedH
  rw [NRel.some_iff r k]
  split
  · exact NRel.putMap r k rv
  · exact Paired.snoc r ⟨rfl, rfl, rv⟩
theorem NRel.fst {xs : List NEnt} {ys : List (NestedKey × Addr × Value)} (r : Paired NRel xs ys) : ys.map (·.1) = xs.map (·.1) := by
  induction r with
  | nil => rfl
  | cons h t ih => simp [ih, h.1]
theorem NRel.mem {xs : List NEnt} {ys : List (NestedKey × Addr × Value)} (r : Paired NRel xs ys) : ∀ y ∈ ys, ∃ x ∈ xs, x.1 = y.1 ∧ x.2.1 = y.2.1 := by
  induction r with
  | nil => intro y h; exact nomatch h
  | @cons p q l1 l2 h t ih =>
    intro y hy
    rcases List.mem_cons.mp hy with rfl | hy
    · exact ⟨p, List.mem_cons_self, h.1, h.2.1⟩
    · obtain ⟨x, hx, e⟩ := ih y hy
      exact ⟨x, List.mem_cons_of_mem _ hx, e⟩
def tDNewN : TE := fun _ H Q => ∀ p, H p = none → Q (.ref p) (upd H p (NDo p 0 []))
/-- what a dict holds at a key -/
def NGet (K : PySem.W.Frag) (H : Hp) (a : Addr) (y : V) (o : Option V) : Prop := ∃ (ep : Nat) (xs : List NEnt) (k : NestedKey) (b : Addr), H a = some (NDo a ep xs) ∧ NKeys K H xs ∧ y = .ref b ∧ Dt K H (.ref b) (nkD k) ∧ nkGood k = true ∧ atN xs k = o
abbrev NRoom (X : Cx) : Prop := X.A.units + 64 < cLine
def rNIn (K : PySem.W.Frag) (neg : Bool) : R2 := fun y x H Q => ∃ a o, x = .ref a ∧ NGet K H a y o ∧ Q (.bl (if neg then !o.isSome else o.isSome)) H
def rIxN (K : PySem.W.Frag) : R2 := fun x y H Q => ∃ a v, x = .ref a ∧ NGet K H a y (some v) ∧ Q v H
/-- a[y] = v -/
def rSetN (K : PySem.W.Frag) : TSet := fun o i v H Q => ∃ a ep xs k b, o = .ref a ∧ i = .ref b ∧ H a = some (NDo a ep xs) ∧ NKeys K H xs ∧ Dt K H (.ref b) (nkD k) ∧ nkGood k = true ∧ xs.length < sizeLine ∧ ∀ ep', Q (upd H a (NDo a ep' (putN xs k b v)))
/-- the keys, one by one, of a dict that stays -/
def ItN (d : Addr) (ep : Nat) (xs : List NEnt) : It :=
  ⟨fun i H => H d = some (NDo d ep xs) ∧ i < xs.length, fun i H x H' => H' = H ∧ ∃ e, xs[i]? = some e ∧ x = .ref e.2.1, fun i H => H d = some (NDo d ep xs) ∧ xs.length ≤ i⟩
def iND (td : TE) : TI := fun σ H R => td σ H fun x H1 => ∃ d ep xs, x = .ref d ∧ H1 d = some (NDo d ep xs) ∧ R (ItN d ep xs) H1
end
end VL

/-! dicts with nested keys by data -/
namespace VL
open PySem PySem.Spec PyProof.Rows L2
section
variable {K : PySem.W.Frag} {W : WX} {G G' H H' : Hp} {σ : L2.St} {X : Cx} {ρ : Rho} {S S0 T : Sta} {Z : Ends}
mutual
/-- data as a key -/
def nkOf : D → Option NestedKey
  | .non => some .none
  | .int i => some (.num i)
  | .tup ds => match nkOfs ds with
    | some ks => some (.tup ks)
    | none => none
  | _ => none
def nkOfs : List D → Option (List NestedKey)
  | [] => some []
  | d :: ds => match nkOf d, nkOfs ds with
    | some k, some ks => some (k :: ks)
    | _, _ => none
end
mutual
theorem nkOf_D : ∀ {d : D} {k : NestedKey}, nkOf d = some k → nkD k = d
  | .non, k, h => by simp only [nkOf, Option.some.injEq] at h; subst h; rfl
  | .int i, k, h => by simp only [nkOf, Option.some.injEq] at h; subst h; simp [nkD]
  | .tup ds, k, h => by
    simp only [nkOf] at h
    split at h
    · rename_i ks e
      cases h
      rw [nkD, nkOfs_D e]
    · cases h
  | .bl _, k, h => by simp [nkOf] at h
  | .str _, k, h => by simp [nkOf] at h
  | .lst _, k, h => by simp [nkOf] at h
  | .dct _, k, h => by simp [nkOf] at h
  | .obj _ _, k, h => by simp [nkOf] at h
  | .scr _, k, h => by simp [nkOf] at h
  | .exc _, k, h => by simp [nkOf] at h
  | .ndc _, k, h => by simp [nkOf] at h
theorem nkOfs_D : ∀ {ds : List D} {ks : List NestedKey}, nkOfs ds = some ks → nkDs ks = ds
  | [], ks, h => by simp only [nkOfs, Option.some.injEq] at h; subst h; rfl
  | d :: ds, ks, h => by
    simp only [nkOfs] at h
    split at h
    · rename_i k ks' e1 e2
      cases h
      rw [nkDs, nkOf_D e1, nkOfs_D e2]
    · cases h
end
/-- a key of such a dict -/
def keyN (d : D) : Option NestedKey := match nkOf d with
  | some k => if nkGood k = true then some k else none
  | none => none
theorem keyN_of {d : D} {k : NestedKey} (h : keyN d = some k) : nkD k = d ∧ nkGood k = true := by
  unfold keyN at h
  split at h
  · rename_i k' e
    split at h
    · rename_i g
      cases h
      exact ⟨nkOf_D e, g⟩
    · cases h
  · cases h
def valN (ds : List (NestedKey × D)) (k : NestedKey) : Option D := (ds.find? fun x => decide (x.1 = k)).map (·.2)
def putND (ds : List (NestedKey × D)) (k : NestedKey) (d : D) : List (NestedKey × D) :=
  if (valN ds k).isSome = true then ds.map (fun x => if x.1 = k then (x.1, d) else x) else ds ++ [(k, d)]
theorem DtN.len : ∀ {xs : List NEnt} {ds : List (NestedKey × D)}, DtN K G xs ds → xs.length = ds.length
  | _, _, .nil => rfl
  | _, _, .cons _ _ t => by simp [DtN.len t]
theorem DtN.keys : ∀ {xs : List NEnt} {ds : List (NestedKey × D)}, DtN K G xs ds → NKeys K G xs
  | _, _, .nil, x, hx => nomatch hx
  | _, _, .cons h _ t, x, hx => by
    rcases List.mem_cons.mp hx with rfl | hx
    · exact h
    · exact DtN.keys t x hx
theorem DtN.names : ∀ {xs : List NEnt} {ds : List (NestedKey × D)}, DtN K G xs ds → DtA K G (xs.map fun x => .ref x.2.1) (ds.map fun x => nkD x.1)
  | _, _, .nil => .nil
  | _, _, .cons h _ t => .cons h (DtN.names t)
theorem DtN.val {k : NestedKey} : ∀ {xs : List NEnt} {ds : List (NestedKey × D)}, DtN K G xs ds → (valN ds k = none ∧ atN xs k = none) ∨ ∃ v d, valN ds k = some d ∧ atN xs k = some v ∧ Dt K G v d
  | _, _, .nil => .inl ⟨rfl, rfl⟩
  | _, _, .cons (k := k') _ h t => by
    by_cases c : k' = k
    · refine .inr ⟨_, _, ?_, ?_, h⟩
      · simp [valN, List.find?_cons, c]
      · simp [atN, List.find?_cons, c]
    · rcases DtN.val (k := k) t with ⟨e1, e2⟩ | ⟨v, d, e1, e2, hd⟩
      · exact .inl ⟨by simpa [valN, List.find?_cons, c] using e1, by simpa [atN, List.find?_cons, c] using e2⟩
      · exact .inr ⟨v, d, by simpa [valN, List.find?_cons, c] using e1, by simpa [atN, List.find?_cons, c] using e2, hd⟩
theorem DtN.isS {k : NestedKey} {xs : List NEnt} {ds : List (NestedKey × D)} (h : DtN K G xs ds) : (atN xs k).isSome = (valN ds k).isSome := by
  rcases h.val (k := k) with ⟨e1, e2⟩ | ⟨v, d, e1, e2, _⟩
  · rw [e1, e2]; rfl
  · rw [e1, e2]; rfl
theorem DtN.putMap {k : NestedKey} {v : V} {d : D} (hv : Dt K G v d) : ∀ {xs : List NEnt} {ds : List (NestedKey × D)}, DtN K G xs ds → DtN K G (xs.map fun x => if x.1 = k then (x.1, x.2.1, v) else x) (ds.map fun x => if x.1 = k then (x.1, d) else x)
  | _, _, .nil => .nil
  | _, _, .cons (k := k') hb h t => by
    simp only [List.map_cons]
    by_cases c : k' = k
    · rw [if_pos c, if_pos c]; exact .cons hb hv (DtN.putMap hv t)
    · rw [if_neg c, if_neg c]; exact .cons hb h (DtN.putMap hv t)
theorem DtN.append : ∀ {xs ys : List NEnt} {ds es : List (NestedKey × D)}, DtN K G xs ds → DtN K G ys es → DtN K G (xs ++ ys) (ds ++ es)
  | _, _, _, _, .nil, h => h
  | _, _, _, _, .cons a b t, h => .cons a b (DtN.append t h)
theorem DtN.put {k : NestedKey} {b : Addr} {v : V} {d : D} {xs : List NEnt} {ds : List (NestedKey × D)} (h : DtN K G xs ds) (hb : Dt K G (.ref b) (nkD k)) (hv : Dt K G v d) : DtN K G (putN xs k b v) (putND ds k d) := by
  unfold putN putND
  rw [h.isS]
  split
  · exact DtN.putMap hv h
  · exact h.append (.cons hb hv .nil)
/-- such a dict: frozen or somebody's own -/
def ndcK (x : Kd × D) (q : List (NestedKey × D) → Prop) : Prop := match x with
  | (.fz, .ndc ds) => q ds
  | (.bor _ _ .N, .ndc ds) => q ds
  | (.new .N, .ndc ds) => q ds
  | _ => False
/-! in -/
def isNdc : D → Bool
  | .ndc _ => true
  | _ => false
def oInX : O2 := fun x y q => if isNdc y.2 = true then optK (keyN x.2) fun k => ndcK y fun ds => q (.fz, .bl (valN ds k).isSome) else oIn x y q
def oNotInX : O2 := fun x y q => if isNdc y.2 = true then optK (keyN x.2) fun k => ndcK y fun ds => q (.fz, .bl (!(valN ds k).isSome)) else oNotIn x y q
/-! subscripts -/
def idxD (ds : List (Key × D)) (k : Key) : Option Nat := ds.findIdx? fun x => decide (x.1 = k)
def oIxX : O2 := fun x y q => match x with
  | (.bor i p (.M m), .dct ds) => optK (keyOf y.2) fun key => optK (idxD ds key) fun j => optK ds[j]? fun kd => q (kAt i (p ++ [j]) m, kd.2)
  | (kd, .ndc ds) => optK (keyN y.2) fun k => ndcK (kd, .ndc ds) fun ds => optK (valN ds k) fun d => q (.fz, d)
  | x => oIx x y q
theorem RK.len {m : Md} : ∀ {vs : List (Key × V)} {ds : List (Key × D)} {fp : List Addr}, RK K G H m vs ds fp → vs.map (·.1) = ds.map (·.1)
  | _, _, _, .nil => rfl
  | _, _, _, .cons h t => by simp [RK.len t]
/-! len, list -/
def oLenX : OL := fun xs q => one1 xs fun x => if isNdc x.2 = true then ndcK x fun ds => q (.fz, .int ds.length) else oLen [x] q
def oListX : OL := fun xs q => one1 xs fun x => if isNdc x.2 = true then ndcK x fun ds => q (.new (.L .F), .lst (ds.map fun y => nkD y.1)) else oList [x] q
/-! {} -/
def wDicN : DE (Kd × D) := fun ρ P => P.ok [] (.new .N, .ndc []) ρ
/-! a[k] = v -/
def subNK (r y : Kd × D) (v : D) (q : Nat → List Nat → D → Prop) : Prop := match r, y with
  | (.bor i p .N, .ndc ds), (.fz, d) => optK (keyN d) fun k => small (ds.length + 1) = true ∧ q i p (.ndc (putND ds k v))
  | _, _ => False
/-- a store into such a dict -/
def wSubN (wv wr wi : DE (Kd × D)) : DS := fun E ρ => wFz wv ρ ⟨fun _ x ρ1 => x.1.md = some .F ∧ wr ρ1 ⟨fun _ r ρ2 => wFz wi ρ2 ⟨fun p3 y ρ3 => hold r.1 p3 = true ∧ subNK r y x.2 fun i p d' => E.nx (setAt ρ3 i p d'), E.ex⟩, E.ex⟩, E.ex⟩
/-! for k in d: the dict is frozen -/
def itnK (x : Kd × D) (q : List D → Prop) : Prop := match x with
  | (.fz, .ndc ds) => q (ds.map fun x => nkD x.1)
  | _ => False
def wItN (we : DE (Kd × D)) : DE (List D) := fun ρ P => wFz we ρ ⟨fun p x ρ' => itnK x fun ds => P.ok p ds ρ', P.ex⟩
end
/-! by simp -/
section
variable {ρ : Rho} {P : Po (Kd × D)} {PL : Po (List D)} {E : En} {q : Kd × D → Prop} {k k' : Kd}
@[simp ↓] theorem storeK_N {i : Nat} {d : D} {q : Rho → Prop} : storeK i (.new .N, d) ρ q = stK i (.N, d) ρ q := by simp [storeK, notP]
@[simp ↓] theorem storeK_M {i : Nat} {m : Md} {d : D} {q : Rho → Prop} : storeK i (.new (.M m), d) ρ q = stK i (.M m, d) ρ q := by simp [storeK, notP]
@[simp ↓] theorem kAt_N {i : Nat} {p : List Nat} : kAt i p .N = .bor i p .N := rfl
@[simp ↓] theorem kAt_M {i : Nat} {p : List Nat} {m : Md} : kAt i p (.M m) = .bor i p (.M m) := rfl
@[simp ↓] theorem st_N : Md.st .N = .N := rfl
@[simp ↓] theorem st_M {m : Md} : Md.st (.M m) = .M m := rfl
@[simp ↓] theorem notP_N : notP .N = true := rfl
@[simp ↓] theorem notP_M {m : Md} : notP (.M m) = true := rfl
@[simp ↓] theorem stK_N {d : D} {md : Md × D} {q : Rho → Prop} : stK 0 md (some (.N, d) :: ρ) q = q (some md :: ρ) := by simp [stK, okSlot]
@[simp ↓] theorem stK_M {m : Md} {d : D} {md : Md × D} {q : Rho → Prop} : stK 0 md (some (.M m, d) :: ρ) q = q (some md :: ρ) := by simp [stK, okSlot]
@[simp ↓] theorem ndcK_f {ds : List (NestedKey × D)} {q : List (NestedKey × D) → Prop} : ndcK (.fz, .ndc ds) q = q ds := rfl
@[simp ↓] theorem ndcK_b {i : Nat} {p : List Nat} {ds : List (NestedKey × D)} {q : List (NestedKey × D) → Prop} : ndcK (.bor i p .N, .ndc ds) q = q ds := rfl
@[simp ↓] theorem ndcK_n {ds : List (NestedKey × D)} {q : List (NestedKey × D) → Prop} : ndcK (.new .N, .ndc ds) q = q ds := rfl
@[simp ↓] theorem oInX_n {x : Kd × D} {ds : List (NestedKey × D)} : oInX x (k, .ndc ds) q = optK (keyN x.2) fun key => ndcK (k, .ndc ds) fun ds => q (.fz, .bl (valN ds key).isSome) := rfl
@[simp ↓] theorem oInX_t {x : Kd × D} {ds : List D} : oInX x (k, .tup ds) q = oIn x (k, .tup ds) q := rfl
@[simp ↓] theorem oInX_l {x : Kd × D} {ds : List D} : oInX x (k, .lst ds) q = oIn x (k, .lst ds) q := rfl
@[simp ↓] theorem oInX_d {x : Kd × D} {ds : List (Key × D)} : oInX x (k, .dct ds) q = oIn x (k, .dct ds) q := rfl
@[simp ↓] theorem oNotInX_n {x : Kd × D} {ds : List (NestedKey × D)} : oNotInX x (k, .ndc ds) q = optK (keyN x.2) fun key => ndcK (k, .ndc ds) fun ds => q (.fz, .bl (!(valN ds key).isSome)) := rfl
@[simp ↓] theorem oNotInX_t {x : Kd × D} {ds : List D} : oNotInX x (k, .tup ds) q = oNotIn x (k, .tup ds) q := rfl
@[simp ↓] theorem oNotInX_l {x : Kd × D} {ds : List D} : oNotInX x (k, .lst ds) q = oNotIn x (k, .lst ds) q := rfl
@[simp ↓] theorem oNotInX_d {x : Kd × D} {ds : List (Key × D)} : oNotInX x (k, .dct ds) q = oNotIn x (k, .dct ds) q := rfl
@[simp ↓] theorem oIxX_n {y : Kd × D} {ds : List (NestedKey × D)} : oIxX (k, .ndc ds) y q = optK (keyN y.2) fun key => ndcK (k, .ndc ds) fun ds => optK (valN ds key) fun d => q (.fz, d) := by
  cases k with
  | bor i p m => cases m <;> rfl
  | _ => rfl
@[simp ↓] theorem oIxX_M {i : Nat} {p : List Nat} {m : Md} {y : Kd × D} {ds : List (Key × D)} : oIxX (.bor i p (.M m), .dct ds) y q = optK (keyOf y.2) fun key => optK (idxD ds key) fun j => optK ds[j]? fun kd => q (kAt i (p ++ [j]) m, kd.2) := rfl
@[simp ↓] theorem oLenX_n {ds : List (NestedKey × D)} : oLenX [(k, .ndc ds)] q = ndcK (k, .ndc ds) fun ds => q (.fz, .int ds.length) := rfl
@[simp ↓] theorem oLenX_l {ds : List D} : oLenX [(k, .lst ds)] q = oLen [(k, .lst ds)] q := rfl
@[simp ↓] theorem oLenX_t {ds : List D} : oLenX [(k, .tup ds)] q = oLen [(k, .tup ds)] q := rfl
@[simp ↓] theorem oListX_n {ds : List (NestedKey × D)} : oListX [(k, .ndc ds)] q = ndcK (k, .ndc ds) fun ds => q (.new (.L .F), .lst (ds.map fun y => nkD y.1)) := rfl
@[simp ↓] theorem oListX_l {ds : List D} : oListX [(k, .lst ds)] q = oList [(k, .lst ds)] q := rfl
@[simp ↓] theorem oListX_t {ds : List D} : oListX [(k, .tup ds)] q = oList [(k, .tup ds)] q := rfl
@[simp ↓] theorem oListX_d {ds : List (Key × D)} : oListX [(k, .dct ds)] q = oList [(k, .dct ds)] q := rfl
@[simp ↓] theorem wDicN_eq : wDicN ρ P = P.ok [] (.new .N, .ndc []) ρ := rfl
@[simp ↓] theorem wSubN_eq {wv wr wi : DE (Kd × D)} : wSubN wv wr wi E ρ = wv ρ ⟨fun _ x ρ1 => x.1.frz.md = some .F ∧ wr ρ1 ⟨fun _ r ρ2 => wi ρ2 ⟨fun p3 y ρ3 => hold r.1 p3 = true ∧ subNK r (y.1.frz, y.2) x.2 fun i p d' => E.nx (setAt ρ3 i p d'), E.ex⟩, E.ex⟩, E.ex⟩ := rfl
@[simp ↓] theorem subNK_n {i : Nat} {p : List Nat} {ds : List (NestedKey × D)} {d v : D} {q : Nat → List Nat → D → Prop} : subNK (.bor i p .N, .ndc ds) (.fz, d) v q = optK (keyN d) fun k => small (ds.length + 1) = true ∧ q i p (.ndc (putND ds k v)) := rfl
@[simp ↓] theorem wItN_eq {we : DE (Kd × D)} : wItN we ρ PL = we ρ ⟨fun p x ρ' => itnK (x.1.frz, x.2) fun ds => PL.ok p ds ρ', PL.ex⟩ := rfl
@[simp ↓] theorem itnK_f {ds : List (NestedKey × D)} {q : List D → Prop} : itnK (.fz, .ndc ds) q = q (ds.map fun x => nkD x.1) := rfl
@[simp ↓] theorem isN_nd {ds : List (NestedKey × D)} : isN (.ndc ds) = false := rfl
end
end VL

/-! sorted lists of data; {k: v} with a nested key -/
namespace VL
open PySem PySem.Spec PyProof.Rows L2
section
variable {X : Cx} {pins : List (Addr × Obj)} {σ : L2.St} {H : Hp} {s : Shared}
def rSortedG (K : PySem.W.Frag) : List V → Hp → VK → Prop := fun vs H Q => ∃ (a : Addr) (bs : List (V × PyData)), vs = [V.ref a] ∧ SqL K H a (bs.map (·.1)) ∧ (∀ p ∈ bs, Dp K H p.1 p.2) ∧ PySem.W.AllAlike (bs.map (·.2)) ∧ PySem.W.Sortable (bs.map (·.2)) ∧ (∀ p ∈ bs, p.2.depth ≤ 60) ∧
  ∀ q, H q = none → Q (.ref q) (upd H q (.lst ((bs.mergeSort (PySem.W.dataLe false (·.2))).map (·.1))))
/-- {k: v} -/
def tDispN (K : PySem.W.Frag) (tk tv : TE) : TE := fun σ H Q => ∀ p, H p = none → tk σ (upd H p (NDo p 0 [])) fun y H1 => tv σ H1 fun v H2 => ∃ b k, H2 p = some (NDo p 0 []) ∧ y = .ref b ∧ Dt K H2 (.ref b) (nkD k) ∧ nkGood k = true ∧ ∀ ep, Q (.ref p) (upd H2 p (NDo p ep [(k, b, v)]))
end
section
variable {K : PySem.W.Frag} {W : WX} {G G' H H' : Hp} {σ : L2.St} {X : Cx} {ρ : Rho} {S S0 T : Sta} {Z : Ends}
def leD (x y : D) : Bool := PySem.W.dataLe false pdOf x y
def oSortedX : OL := fun xs q => one1 xs fun x => lstK x fun ds => ((∀ d ∈ ds, pdK 40 d = true) ∧ PySem.W.AllAlike (ds.map pdOf) ∧ PySem.W.Sortable (ds.map pdOf)) ∧ q (.new (.L .F), .lst (ds.mergeSort leD))
def wDispN (wk wv : DE (Kd × D)) : DE (Kd × D) := fun ρ P => wFz wk ρ ⟨fun p1 x ρ1 => wFz wv ρ1 ⟨fun p2 y ρ2 => (hold x.1 p2 = true ∧ allFz [x, y] = true) ∧ optK (keyN x.2) fun k => P.ok (p1 ++ p2) (.new .N, .ndc [(k, y.2)]) ρ2, P.ex⟩, P.ex⟩
@[simp ↓] theorem oSortedX_eq {xs : List (Kd × D)} {q : Kd × D → Prop} : oSortedX xs q = one1 xs fun x => lstK x fun ds => ((∀ d ∈ ds, pdK 40 d = true) ∧ PySem.W.AllAlike (ds.map pdOf) ∧ PySem.W.Sortable (ds.map pdOf)) ∧ q (.new (.L .F), .lst (ds.mergeSort leD)) := rfl
@[simp ↓] theorem wDispN_eq {wk wv : DE (Kd × D)} {P : Po (Kd × D)} : wDispN wk wv ρ P = wk ρ ⟨fun p1 x ρ1 => wv ρ1 ⟨fun p2 y ρ2 => (hold x.1.frz p2 = true ∧ allFz [(x.1.frz, x.2), (y.1.frz, y.2)] = true) ∧ optK (keyN x.2) fun k => P.ok (p1 ++ p2) (.new .N, .ndc [(k, y.2)]) ρ2, P.ex⟩, P.ex⟩ := rfl
end
end VL

/-! comprehensions over a frozen dict: it is locked while they run -/
namespace VL
open PySem PySem.Spec PyProof.Rows L2
section
variable {K : PySem.W.Frag} {W : WX} {G G' H H' : Hp} {σ : L2.St} {X : Cx} {ρ : Rho} {S S0 T : Sta} {Z : Ends}
/-- the dict at a is locked or unlocked -/
inductive Sw (a : Addr) (u u' : HO) : Prop
  | lk {o : Obj} {kvs : List (Key × V)} : u = .dK kvs → u' = .frz o (.dK kvs) → Sw a u u'
  | un {o : Obj} {kvs : List (Key × V)} : u = .frz o (.dK kvs) → u' = .dK kvs → Sw a u u'
def notDK : HO → Prop
  | .dK _ => False
  | .frz _ (.dK _) => False
  | _ => True
theorem Sw.ne {a : Addr} {u u' : HO} (s : Sw a u u') (h : G a = some u) {b : Addr} {x : HO} (hb : G b = some x) (hx : notDK x) : upd G a u' b = some x := by
  have : b ≠ a := fun z => by
    rw [z, h] at hb
    cases hb
    cases s with
    | lk e _ => subst e; exact hx
    | un e _ => subst e; exact hx
  rw [upd_ne this]; exact hb
theorem Sw.t {a : Addr} {u u' : HO} (s : Sw a u u') (h : G a = some u) {b : Addr} {xs : List V} (hb : SqT K G b xs) : SqT K (upd G a u') b xs := by
  rcases hb with (hb | ⟨o, hb⟩) | hb
  · exact .inl (.inl (s.ne h hb trivial))
  · exact .inl (.inr ⟨o, s.ne h hb trivial⟩)
  · exact .inr hb
theorem Sw.l {a : Addr} {u u' : HO} (s : Sw a u u') (h : G a = some u) {b : Addr} {xs : List V} (hb : SqL K G b xs) : SqL K (upd G a u') b xs := by
  rcases hb with (hb | ⟨o, hb⟩) | hb
  · exact .inl (.inl (s.ne h hb trivial))
  · exact .inl (.inr ⟨o, s.ne h hb trivial⟩)
  · exact .inr hb
section
variable {a : Addr} {u u' : HO} (s : Sw a u u')
include s
abbrev Sta.sw (S : Sta) (a : Addr) (u' : HO) : Sta := { S with G := upd S.G a u', H := upd S.H a u' }
end
/-! what is walked -/
def wKeysAt (i : Nat) : Option Nat → DE (List D)
  | none => fun ρ P => match ρ[i]? with
    | some (some (.F, .dct ds)) => P.ok [] (ds.map fun kv => kD kv.1) ρ
    | _ => False
  | some j => fun ρ P => match ρ[i]? with
    | some (some (.F, .tup xs)) => match xs[j]? with
      | some (.dct ds) => P.ok [] (ds.map fun kv => kD kv.1) ρ
      | _ => False
    | _ => False
def tdAt (K : PySem.W.Frag) (i : Nat) : Option Nat → TE
  | none => tVar i
  | some j => tOp (fun x y H Q => rIx K x y H Q ∨ rIxDK x y H Q) (tVar i) (tC (.int (j : Int)))
abbrev TInj (K : PySem.W.Frag) (H : Hp) : Prop := ∀ a xs ys, SqT K H a xs → SqT K H a ys → xs = ys
/-- what stands there -/
def DctAt (K : PySem.W.Frag) (σ : L2.St) (G : Hp) (i : Nat) (ds : List (Key × D)) (d : Addr) (kvs : List (Key × V)) : Option Nat → Prop
  | none => σ[i]? = some (some (.ref d)) ∧ Rd G d (.dK kvs) ∧ DtK K G kvs ds
  | some j => ∃ b xs, σ[i]? = some (some (.ref b)) ∧ SqT K G b xs ∧ xs[j]? = some (.ref d) ∧ Rd G d (.dK kvs) ∧ DtK K G kvs ds
theorem DctAt.same {i : Nat} {j : Option Nat} {ds ds' : List (Key × D)} {d d' : Addr} {kvs kvs' : List (Key × V)} (hi : TInj K H) (xt : Ex G H) (xt' : Ex G' H) (h : DctAt K σ G i ds d kvs j) (h' : DctAt K σ G' i ds' d' kvs' j) : d' = d := by
  cases j with
  | none =>
    have e := h.1.symm.trans h'.1
    cases e
    rfl
  | some j =>
    obtain ⟨b, xs, h1, h2, h3, _⟩ := h
    obtain ⟨b', xs', h1', h2', h3', _⟩ := h'
    rw [h1] at h1'
    cases h1'
    have := hi b xs xs' (xt.t h2) (xt'.t h2')
    subst this
    rw [h3] at h3'
    cases h3'
    rfl
theorem Src.keys {d : Addr} {o : Obj} {kvs : List (Key × V)} {ds : List (Key × D)} (h : G d = some (.frz o (.dK kvs))) (t : DtK K G kvs ds) : Src K G (Itk d o kvs) (ds.map fun kv => kD kv.1) := fun G1 H1 e1 e2 i => by
  have h1 := e2 _ _ (e1 _ _ h)
  have hl : (ds.map fun kv => kD kv.1).length = kvs.length := by rw [List.length_map, t.len]
  refine ⟨fun hi => ⟨h1, by rw [← hl]; exact hi⟩, fun hi => ⟨h1, by rw [← hl]; exact hi⟩, fun x H2 d' hy he => ?_⟩
  obtain ⟨rfl, k, v, hk, rfl⟩ := hy
  refine ⟨G1, Grow.refl e2, ?_⟩
  obtain ⟨w, ew, hw⟩ := (t.mono e1).keys.get he
  rw [List.getElem?_map, hk] at ew
  cases ew
  exact hw
def wLcD (i : Nat) (j : Option Nat) (g : DG) (t : DE Bool) (we : DE (Kd × D)) (vs q : List Nat) : DE (Kd × D) := fun ρ P => wLc (wKeysAt i j) g t we vs q ρ ⟨P.ok, fun _ _ _ => False⟩
def tLcK (K : PySem.W.Frag) (i : Nat) (j : Option Nat) (g : TG) (tt : TT) (te : TE) (vs : List Nat) : TE := fun σ H Q => TInj K H → tLc (iKeys (tdAt K i j)) g tt te vs σ H Q ∨ tLockE (tLc (iKeys (tdAt K i j)) g tt te vs) σ H Q
section
variable {elt tg iter : Expr} {ifs : List Expr} {scope : Scope} {own : List (Str × Nat)} {pos : Pos} {i : Nat} {j : Option Nat} {g : DG} {t : DE Bool} {we : DE (Kd × D)}
end
end
/-! by simp -/
section
variable {ρ : Rho} {P : Po (Kd × D)}
def dK1 (d : D) (q : List D → Prop) : Prop := match d with
  | .dct ds => q (ds.map fun kv => kD kv.1)
  | _ => False
def tK1 (d : D) (j : Nat) (q : List D → Prop) : Prop := match d with
  | .tup xs => nthK xs j fun d => dK1 d q
  | _ => False
@[simp ↓] theorem dK1_d {ds : List (Key × D)} {q : List D → Prop} : dK1 (.dct ds) q = q (ds.map fun kv => kD kv.1) := rfl
@[simp ↓] theorem tK1_t {xs : List D} {j : Nat} {q : List D → Prop} : tK1 (.tup xs) j q = nthK xs j fun d => dK1 d q := rfl
/-- the keys of a slot's dict -/
def dctAt (ρ : Rho) (i : Nat) (j : Option Nat) (q : List D → Prop) : Prop := slotK ρ i fun m d => m = .F ∧ match j with
  | none => dK1 d q
  | some j => tK1 d j q
@[simp ↓] theorem dctAt_n {i : Nat} {q : List D → Prop} : dctAt ρ i none q = slotK ρ i fun m d => m = .F ∧ dK1 d q := rfl
@[simp ↓] theorem dctAt_s {i j : Nat} {q : List D → Prop} : dctAt ρ i (some j) q = slotK ρ i fun m d => m = .F ∧ tK1 d j q := rfl
theorem wKeysAt_eq {i : Nat} {j : Option Nat} {PL : Po (List D)} : wKeysAt i j ρ PL = dctAt ρ i j fun ds => PL.ok [] ds ρ := by
  unfold dctAt slotK
  cases j with
  | none =>
    simp only [wKeysAt]
    cases e : ρ[i]? with
    | none => rfl
    | some y =>
      cases y with
      | none => rfl
      | some md =>
        obtain ⟨m, d⟩ := md
        cases m <;> cases d <;> simp [dK1]
  | some j =>
    simp only [wKeysAt]
    cases e : ρ[i]? with
    | none => rfl
    | some y =>
      cases y with
      | none => rfl
      | some md =>
        obtain ⟨m, d⟩ := md
        cases m <;> cases d <;> simp [tK1, nthK_of]
        rename_i xs
        cases xs[j]? with
        | none => rfl
        | some d => cases d <;> rfl
@[simp ↓] theorem wLcD_eq {i : Nat} {j : Option Nat} {g : DG} {t : DE Bool} {we : DE (Kd × D)} {vs q : List Nat} : wLcD i j g t we vs q ρ P = dctAt ρ i j fun ds => lcK ds g t we vs q (wipeR ρ vs) fun acc ρ2 => P.ok (vs ++ q) (.new (.L .F), .lst acc) ρ2 := by
  unfold wLcD
  rw [wLc_eq, wKeysAt_eq]
  rfl
end
end VL

/-! reversed(range(n)) -/
namespace VL
open PySem PySem.Spec PyProof.Rows L2
section
variable {K : PySem.W.Frag} {W : WX} {G G' H H' : Hp} {σ : L2.St} {X : Cx} {ρ : Rho} {S S0 T : Sta} {Z : Ends}
def revR (x : Kd × D) (q : List D → Prop) : Prop := match x.2 with
  | .int j => inR j ∧ q (rangeD 0 j.toNat).reverse
  | _ => False
def wRevRng (we : DE (Kd × D)) : DE (List D) := fun ρ P => we ρ ⟨fun p x ρ' => revR x fun ds => P.ok p ds ρ', P.ex⟩
end
section
variable {ρ : Rho} {PL : Po (List D)}
@[simp ↓] theorem revR_i {k : Kd} {j : Int} {q : List D → Prop} : revR (k, .int j) q = (inR j ∧ q (rangeD 0 j.toNat).reverse) := rfl
@[simp ↓] theorem wRevRng_eq {we : DE (Kd × D)} : wRevRng we ρ PL = we ρ ⟨fun p x ρ' => revR x fun ds => PL.ok p ds ρ', PL.ex⟩ := rfl
end
end VL

namespace My
open PySem PySem.Spec PyProof.Rows L2 VL
/-! ### the law's sameness, None known -/
/-- what is due: ints, texts, lists and tuples of such, at most so deep -/
def ShB : Nat → D → Bool
  | _, .non => true
  | _, .int _ => true
  | _, .str _ => true
  | n + 1, .lst xs => decide (xs.length ≤ 90000) && xs.all (ShB n)
  | n + 1, .tup xs => decide (xs.length ≤ 90000) && xs.all (ShB n)
  | _, _ => false
/-- what is found: None and bools, too -/
def ShF : Nat → D → Bool
  | _, .int _ => true
  | _, .str _ => true
  | _, .non => true
  | _, .bl _ => true
  | n + 1, .lst xs => xs.all (ShF n)
  | n + 1, .tup xs => xs.all (ShF n)
  | _, _ => false
def sameB : D → D → Bool
  | .int a, .int b => decide (a = b)
  | .str a, .str b => decide (a = b)
  | .non, .non => true
  | _, _ => false
def sameD : Nat → D → D → Bool
  | n + 1, .lst xs, .lst ys => decide (xs.length = ys.length) && (xs.zip ys).all fun z => sameD n z.1 z.2
  | n + 1, .tup xs, .tup ys => decide (xs.length = ys.length) && (xs.zip ys).all fun z => sameD n z.1 z.2
  | _, x, y => sameB x y
theorem ShB.f : ∀ {n : Nat} {x : D}, ShB n x = true → ShF n x = true
  | 0, x, h => by cases x <;> simp [ShB] at h <;> simp [ShF]
  | n + 1, x, h => by
    cases x <;> simp [ShB] at h <;> simp [ShF]
    · exact fun x hx => ShB.f (h.2 x hx)
    · exact fun x hx => ShB.f (h.2 x hx)
theorem ShB.up : ∀ {n : Nat} {x : D}, ShB n x = true → ShB (n + 1) x = true
  | 0, x, h => by cases x <;> simp [ShB] at h <;> simp [ShB]
  | n + 1, x, h => by
    cases x with
    | int i => simp [ShB]
    | str i => simp [ShB]
    | lst xs =>
      simp only [ShB, Bool.and_eq_true, decide_eq_true_eq] at h
      rw [ShB]
      simp only [Bool.and_eq_true, decide_eq_true_eq]
      exact ⟨h.1, List.all_eq_true.mpr fun y hy => ShB.up (List.all_eq_true.mp h.2 y hy)⟩
    | tup xs =>
      simp only [ShB, Bool.and_eq_true, decide_eq_true_eq] at h
      rw [ShB]
      simp only [Bool.and_eq_true, decide_eq_true_eq]
      exact ⟨h.1, List.all_eq_true.mpr fun y hy => ShB.up (List.all_eq_true.mp h.2 y hy)⟩
    | non => simp [ShB]
    | bl b => simp [ShB] at h
    | dct b => simp [ShB] at h
    | obj C b => simp [ShB] at h
    | scr b => simp [ShB] at h
    | exc b => simp [ShB] at h
    | ndc b => simp [ShB] at h
    | exf _ _ => simp [ShB] at h
def W__law_same (A : Cs) : Nat → DF
  | 0 => fun _ _ => False
  | n + 1 => fun ds P => ∃ x y : D, ds = [x, y] ∧ ShF n x = true ∧ ShB n y = true ∧ P.ok (.fz, .bl (sameD n x y)) ds
end My

namespace My
open PySem PySem.Spec PyProof.Rows L2 VL
/-- the least of the pairs: the least later one, and of these the least first one -/
def firstF (p : Nat → Nat → Bool) (l : Nat) : Option Nat := (List.range l).find? fun f => p f l
def firstP (p : Nat → Nat → Bool) (n : Nat) : Option (Nat × Nat) := (List.range n).findSome? fun l => (firstF p l).map fun f => (f, l)
def optI : Option Nat → D
  | none => .non
  | some f => .int f
def paperO (k : Str) : Option (Nat × Nat) → D
  | none => .non
  | some (f, l) => .tup [.str k, .int f, .int l]
def sameR (t : Tab) (f l : Nat) : Bool := decide (sameS (runC t f cf0).2 (runC t l cf0).2)
def shR (t : Tab) (f l : Nat) : Bool := shB (runC t f cf0).2 (runC t l cf0).2 (minP t (runC t f cf0).2 (l - f)) (maxP t (runC t f cf0).2 (l - f))
/-- a shot as a key -/
def nkM (m : Cells) : List NestedKey := m.map fun y => .tup [.num y.1, .num y.2]
def nkC (x : Cf) : NestedKey := .tup [.num x.q, .num x.p, .tup (nkM (sortC x.c))]
def W_trail (A : Cs) : DF := fun ds P => ∃ (t : Tab) (st sg : Nat) (n : Int), ds = [machD A t, .int n] ∧ TabOk t st sg ∧ n ≤ 5000 ∧ P.ok (.new (.L .F), .lst ((rowC t n.toNat cf0).map shotC)) ds
def W_same_of (A : Cs) : DF := fun ds P => ∃ (t : Tab) (st sg : Nat) (n : Int), ds = [machD A t, .int n] ∧ TabOk t st sg ∧ n ≤ 5000 ∧ P.ok (.fz, paperO "same" (firstP (sameR t) ((runC t n.toNat cf0).1 + 1))) ds
def W_first_shifted (A : Cs) : DF := fun ds P => ∃ (t : Tab) (st sg n l : Nat), ds = [.lst ((rowC t n cf0).map shotC), .int l] ∧ TabOk t st sg ∧ n ≤ 5000 ∧ l ≤ (runC t n cf0).1 ∧ P.ok (.fz, optI (firstF (shR t) l)) ds
def W_shifted_of (A : Cs) : DF := fun ds P => ∃ (t : Tab) (st sg : Nat) (n : Int), ds = [machD A t, .int n] ∧ TabOk t st sg ∧ n ≤ 5000 ∧ P.ok (.fz, paperO "shifted" (firstP (shR t) ((runC t n.toNat cf0).1 + 1))) ds
section
variable {A : Cs} {t : Tab} {st sg : Nat} {P : Pf}
end
section
variable {A : Cs} {t : Tab} {st sg : Nat} {P : Pf}
end

end My

/-! a tuple so many times -/
namespace VL
open PySem PySem.Spec PyProof.Rows L2
def rRepT1 (K : PySem.W.Frag) : R2 := fun x y H Q => ∃ l xs, x = .ref l ∧ y = .int 1 ∧ SqT K H l xs ∧ Q x H
section
variable {X : Cx}
end
section
variable {K : PySem.W.Frag} {W : WX} {G G' H H' : Hp} {σ : L2.St} {X : Cx} {ρ : Rho} {S S0 T : Sta} {Z : Ends}
def oMulX : O2 := fun x y q => match x, y.2 with
  | (.fz, .tup ds), .int n => (ds ≠ [] ∧ 1 ≤ n ∧ n ≤ 1000 ∧ ds.length ≤ 1000) ∧ q (.fz, .tup (List.replicate n.toNat ds).flatten)
  | x, _ => oMul x y q
end
@[simp ↓] theorem oMulX_t {ds : List D} {k : Kd} {n : Int} {q : Kd × D → Prop} : oMulX (.fz, .tup ds) (k, .int n) q = ((ds ≠ [] ∧ 1 ≤ n ∧ n ≤ 1000 ∧ ds.length ≤ 1000) ∧ q (.fz, .tup (List.replicate n.toNat ds).flatten)) := rfl
end VL

namespace My
open PySem PySem.Spec PyProof.Rows L2 VL
/-! ### walls as plain things -/
abbrev Gram := List Int
structure Ctx where
  l : Gram
  q : Int
  s : Int
  r : Gram
deriving DecidableEq
def gramD (g : Gram) : D := .tup (g.map .int)
def ctxD (c : Ctx) : D := .tup [gramD c.l, .int c.q, .int c.s, gramD c.r]
def nkG (g : Gram) : NestedKey := .tup (g.map .num)
def nkX (c : Ctx) : NestedKey := .tup [nkG c.l, .num c.q, .num c.s, nkG c.r]
theorem nums_inj : ∀ {a b : List Int}, a.map NestedKey.num = b.map NestedKey.num → a = b
  | [], [], _ => rfl
  | [], _ :: _, h => by simp at h
  | _ :: _, [], h => by simp at h
  | x :: a, y :: b, h => by
    simp only [List.map_cons, List.cons.injEq, NestedKey.num.injEq] at h
    rw [h.1, nums_inj h.2]
theorem nkG_inj {a b : Gram} (h : nkG a = nkG b) : a = b := nums_inj (by simpa [nkG] using h)
theorem nkX_inj {a b : Ctx} (h : nkX a = nkX b) : a = b := by
  obtain ⟨a1, a2, a3, a4⟩ := a
  obtain ⟨b1, b2, b3, b4⟩ := b
  simp only [nkX, NestedKey.tup.injEq, List.cons.injEq, NestedKey.num.injEq, and_true] at h
  obtain ⟨h1, rfl, rfl, h4⟩ := h
  rw [nkG_inj h1, nkG_inj h4]
theorem nkOfs_nums : ∀ g : Gram, nkOfs (g.map .int) = some (g.map .num)
  | [] => rfl
  | x :: g => by
    simp only [List.map_cons, nkOfs, nkOf, nkOfs_nums g]
theorem nkOks_nums : ∀ g : Gram, nkOks (g.map .num) = true
  | [] => rfl
  | x :: g => by simp only [List.map_cons, nkOks, nkOk, nkOks_nums g, Bool.and_self]
theorem depth_nums : ∀ g : Gram, NestedKey.depthAll (g.map .num) = 0
  | [] => by simp [NestedKey.depthAll]
  | x :: g => by simp [NestedKey.depthAll, NestedKey.depth, depth_nums g]
theorem nkOf_gram (g : Gram) : nkOf (gramD g) = some (nkG g) := by
  unfold gramD nkG
  simp only [nkOf, nkOfs_nums]
theorem nkOk_G (g : Gram) : nkOk (nkG g) = true := by
  unfold nkG
  simp only [nkOk, nkOks_nums]
theorem depth_G (g : Gram) : (nkG g).depth ≤ 1 := by
  unfold nkG
  simp only [NestedKey.depth, depth_nums]
  omega
@[simp] theorem keyN_gram {g : Gram} : keyN (gramD g) = some (nkG g) := by
  unfold keyN
  rw [nkOf_gram]
  have h := depth_G g
  have : nkGood (nkG g) = true := by
    unfold nkGood
    simp only [nkOk_G, Bool.true_and, Bool.and_eq_true, Nat.ble_eq]
    exact ⟨rfl, by omega⟩
  simp [this]
@[simp] theorem keyN_ctx {c : Ctx} : keyN (ctxD c) = some (nkX c) := by
  unfold keyN
  have e : nkOf (ctxD c) = some (nkX c) := by
    unfold ctxD nkX
    simp only [nkOf, nkOfs, nkOf_gram]
  rw [e]
  have h := depth_G c.l
  have h' := depth_G c.r
  have : nkGood (nkX c) = true := by
    unfold nkGood nkX
    simp only [nkOk, nkOks, nkOk_G, Bool.true_and, Bool.and_eq_true, Nat.ble_eq, NestedKey.depth, NestedKey.depthAll]
    exact ⟨rfl, by omega⟩
  simp [this]
@[simp] theorem nkD_G {g : Gram} : nkD (nkG g) = gramD g := (keyN_of keyN_gram).1
@[simp] theorem nkD_X {c : Ctx} : nkD (nkX c) = ctxD c := (keyN_of keyN_ctx).1
/-! sets -/
def setN (ks : List NestedKey) : D := .ndc (ks.map fun k => (k, .bl true))
def putS {α : Type} [DecidableEq α] (xs : List α) (x : α) : List α := if x ∈ xs then xs else xs ++ [x]
theorem valN_set {k : NestedKey} : ∀ ks : List NestedKey, valN (ks.map fun k => (k, D.bl true)) k = if k ∈ ks then some (.bl true) else none
  | [] => rfl
  | x :: ks => by
    have ih := valN_set (k := k) ks
    unfold valN at ih ⊢
    simp only [List.map_cons, List.find?_cons]
    by_cases c : x = k
    · simp [c]
    · simp only [c, decide_false]
      rw [ih]
      have c' : ¬ k = x := fun e => c e.symm
      simp [c']
theorem isS_set {k : NestedKey} {ks : List NestedKey} : (valN (ks.map fun k => (k, D.bl true)) k).isSome = decide (k ∈ ks) := by
  rw [valN_set]
  by_cases c : k ∈ ks <;> simp [c]
theorem putND_set {k : NestedKey} {ks : List NestedKey} : putND (ks.map fun k => (k, D.bl true)) k (.bl true) = (putS ks k).map fun k => (k, D.bl true) := by
  unfold putND putS
  rw [isS_set]
  by_cases c : k ∈ ks
  · simp only [c, decide_true, if_true, List.map_map]
    apply List.map_congr_left
    intro x _
    simp only [Function.comp]
    split <;> rfl
  · simp [c]
section
variable {α β : Type} [DecidableEq α] [DecidableEq β]
def putsS (ys xs : List α) : List α := ys.foldl putS xs
theorem nodup_len : ∀ {xs ys : List α}, xs.Nodup → (∀ x ∈ xs, x ∈ ys) → xs.length ≤ ys.length
  | [], ys, _, _ => by simp
  | x :: xs, ys, hn, hs => by
    rw [List.nodup_cons] at hn
    have hx := hs x List.mem_cons_self
    have ih := nodup_len (xs := xs) (ys := ys.erase x) hn.2 (fun y hy => by
      have hy' := hs y (List.mem_cons_of_mem _ hy)
      have : y ≠ x := fun e => hn.1 (e ▸ hy)
      exact (List.mem_erase_of_ne this).mpr hy')
    have := List.length_erase_of_mem hx
    have hp : 0 < ys.length := List.length_pos_of_mem hx
    simp only [List.length_cons]
    omega
end
/-! what grows -/
def gOk (w sg : Nat) (g : Gram) : Prop := g.length = w ∧ ∀ x ∈ g, 0 ≤ x ∧ x < (sg : Int)
structure cOk (w st sg : Nat) (c : Ctx) : Prop where
  l : gOk w sg c.l
  r : gOk w sg c.r
  q : 0 ≤ c.q ∧ c.q < (st : Int)
  s : 0 ≤ c.s ∧ c.s < (sg : Int)
def behindW (t : Tab) (c : Ctx) (L R : List Gram) : List Ctx := match entAt t c.q c.s with
  | none => []
  | some (w, true, s) => (R.filter fun g => decide (g.dropLast = c.r.tail)).map fun g => ⟨w :: c.l.dropLast, s, c.r.headD 0, g⟩
  | some (w, false, s) => (L.filter fun g => decide (g.dropLast = c.l.tail)).map fun g => ⟨g, s, c.l.headD 0, w :: c.r.dropLast⟩
structure Wl where
  L : List Gram
  R : List Gram
  C : List Ctx
def sizeW (s : Wl) : Nat := s.L.length + s.R.length + s.C.length
def putW (d : Bool) (c : Ctx) (s : Wl) : Wl := if d then { s with L := putS s.L c.l } else { s with R := putS s.R c.r }
def stepW (t : Tab) (c : Ctx) (s : Wl) : Option Wl := match entAt t c.q c.s with
  | none => none
  | some (_, d, _) => some { putW d c s with C := putsS (behindW t c (putW d c s).L (putW d c s).R) s.C }
def passW (t : Tab) : List Ctx → Wl → Option Wl
  | [], s => some s
  | c :: cs, s => match stepW t c s with
    | none => none
    | some s' => passW t cs s'
def loopW (t : Tab) (most : Int) : Nat → Wl → Option Wl
  | 0, _ => none
  | n + 1, s => if most < s.C.length then none else match passW t s.C s with
    | none => none
    | some s' => if sizeW s' = sizeW s then some s' else loopW t most n s'
def blankG (w : Nat) : Gram := List.replicate w 0
def wl0 (w : Nat) : Wl := ⟨[blankG w], [blankG w], [⟨blankG w, 0, 0, blankG w⟩]⟩
def wallR (t : Tab) (w : Nat) (most : Int) : Option Wl := loopW t most (3 * most.toNat + 10) (wl0 w)
structure wOk (w st sg : Nat) (s : Wl) : Prop where
  l : ∀ g ∈ s.L, gOk w sg g
  r : ∀ g ∈ s.R, gOk w sg g
  c : ∀ c ∈ s.C, cOk w st sg c
  nl : s.L.Nodup
  nr : s.R.Nodup
  nc : s.C.Nodup
structure subW (s s' : Wl) : Prop where
  l : ∀ g ∈ s.L, g ∈ s'.L
  r : ∀ g ∈ s.R, g ∈ s'.R
  c : ∀ g ∈ s.C, g ∈ s'.C
theorem subW.refl (s : Wl) : subW s s := ⟨fun _ h => h, fun _ h => h, fun _ h => h⟩
theorem subW.trans {a b c : Wl} (h : subW a b) (g : subW b c) : subW a c := ⟨fun x hx => g.l x (h.l x hx), fun x hx => g.r x (h.r x hx), fun x hx => g.c x (h.c x hx)⟩
theorem gOk.cons {w sg : Nat} {g : Gram} {x : Int} (h : gOk w sg g) (hw : 0 < w) (hx : 0 ≤ x ∧ x < (sg : Int)) : gOk w sg (x :: g.dropLast) := by
  refine ⟨by simp [h.1]; omega, fun y hy => ?_⟩
  rcases List.mem_cons.mp hy with rfl | hy
  · exact hx
  · exact h.2 y (List.dropLast_subset _ hy)
theorem gOk.hd {w sg : Nat} {g : Gram} (h : gOk w sg g) (hw : 0 < w) : 0 ≤ g.headD 0 ∧ g.headD 0 < (sg : Int) := by
  cases g with
  | nil => have := h.1; simp at this; omega
  | cons x g => exact h.2 x List.mem_cons_self
/-- whether all that a context asks for is there -/
def closed1 (t : Tab) (L R : List Gram) (C : List Ctx) (c : Ctx) : Bool := match entAt t c.q c.s with
  | none => false
  | some (_, d, _) => (if d then decide (c.l ∈ L) else decide (c.r ∈ R)) && (behindW t c L R).all fun n => decide (n ∈ C)
def closedB (t : Tab) (L R : List Gram) (C : List Ctx) : Bool := C.all (closed1 t L R C)
/-- the grams come of contexts -/
structure ofC (s : Wl) : Prop where
  l : ∀ g ∈ s.L, ∃ c ∈ s.C, c.l = g
  r : ∀ g ∈ s.R, ∃ c ∈ s.C, c.r = g
theorem ofC.len {w st sg : Nat} {s : Wl} (h : ofC s) (hs : wOk w st sg s) : s.L.length ≤ s.C.length ∧ s.R.length ≤ s.C.length := by
  constructor
  · have := nodup_len (ys := s.C.map (·.l)) hs.nl (fun g hg => by
      obtain ⟨c, hc, e⟩ := h.l g hg
      exact List.mem_map.mpr ⟨c, hc, e⟩)
    simpa using this
  · have := nodup_len (ys := s.C.map (·.r)) hs.nr (fun g hg => by
      obtain ⟨c, hc, e⟩ := h.r g hg
      exact List.mem_map.mpr ⟨c, hc, e⟩)
    simpa using this
structure wallOk (t : Tab) (w st sg : Nat) (most : Int) (s : Wl) : Prop where
  ok : wOk w st sg s
  n : (s.C.length : Int) ≤ most
  o : ofC s
  closed : closedB t s.L s.R s.C = true
  first : subW (wl0 w) s
end My

namespace My
open PySem PySem.Spec PyProof.Rows L2 VL
/-! ### what the walls' functions promise -/
/-- plain, nowhere long -/
def ppK : Nat → D → Bool
  | _, .non => true
  | _, .bl _ => true
  | _, .int _ => true
  | _, .str x => PyData.strOk x
  | n + 1, .lst xs => decide (xs.length ≤ 30000) && xs.all (ppK n)
  | n + 1, .tup xs => decide (xs.length ≤ 30000) && xs.all (ppK n)
  | _, _ => false
def gramB (w sg : Int) : D → Bool
  | .tup xs => decide ((xs.length : Int) = w) && xs.all (numB sg)
  | _ => false
def ctxB (st sg w : Int) : D → Bool
  | .tup [l, q, s, r] => (numB st q && numB sg s) && (gramB w sg l && gramB w sg r)
  | _ => false
def rowO : D → Option (List D)
  | .lst xs => some xs
  | .tup xs => some xs
  | _ => none
def isRow (d : D) : Bool := (rowO d).isSome
def rowsOf (d : D) : List D := (rowO d).getD []
def isWord (k : Str) (d : D) : Bool := eqX d (.str k)
def wallB (st sg : Int) : D → Bool
  | .tup [k, .int w, l, r, c] => isWord "wall" k && decide (1 ≤ w) && (isRow l && isRow r && isRow c) && ((rowsOf l ++ rowsOf r).all (gramB w sg) && (rowsOf c).all (ctxB st sg w))
  | _ => false
def intOf : D → Int
  | .int i => i
  | _ => 0
def gramOf : D → Gram
  | .tup xs => xs.map intOf
  | _ => []
def ctxOf : D → Ctx
  | .tup [l, q, s, r] => ⟨gramOf l, intOf q, intOf s, gramOf r⟩
  | _ => ⟨[], 0, 0, []⟩
def takenL (t : Tab) (w : Nat) (L R : List Gram) (C : List Ctx) : Bool := (decide (blankG w ∈ L) && decide (blankG w ∈ R) && decide ((⟨blankG w, 0, 0, blankG w⟩ : Ctx) ∈ C)) && closedB t L R C
def takenT (t : Tab) (st sg : Int) (d : D) : Bool := wallB st sg d && match d with
  | .tup [_, .int w, l, r, c] => takenL t w.toNat ((rowsOf l).map gramOf) ((rowsOf r).map gramOf) ((rowsOf c).map ctxOf)
  | _ => false
def W_is_gram (A : Cs) : DF := fun ds P => ∃ (d : D) (w sg : Int) (n : Nat), ds = [d, .int w, .int sg] ∧ ppK n d = true ∧ P.ok (.fz, .bl (gramB w sg d)) ds
def W_is_context (A : Cs) : DF := fun ds P => ∃ (t : Tab) (st sg : Nat) (d : D) (w : Int) (n : Nat), ds = [machD A t, d, .int w] ∧ TabOk t st sg ∧ ppK n d = true ∧ P.ok (.fz, .bl (ctxB st sg w d)) ds
def W_is_row (A : Cs) : DF := fun ds P => ∃ (d : D) (n : Nat), ds = [d] ∧ ppK n d = true ∧ P.ok (.fz, .bl (isRow d)) ds
def W_wall_formed (A : Cs) : DF := fun ds P => ∃ (t : Tab) (st sg : Nat) (d : D), ds = [machD A t, d] ∧ TabOk t st sg ∧ ppK 30 d = true ∧ P.ok (.fz, .bl (wallB st sg d)) ds
def seqD (b : Bool) (xs : List D) : D := if b then .lst xs else .tup xs
def W_names_of (A : Cs) : DF := fun ds P => ∃ (ks : List NestedKey) (b : Bool), ds = [seqD b (ks.map nkD)] ∧ (∀ k ∈ ks, keyN (nkD k) = some k) ∧ ks.length ≤ 90000 ∧ P.ok (.new .N, setN (putsS ks [])) ds
def W_contexts_behind (A : Cs) : DF := fun ds P => ∃ (t : Tab) (w st sg : Nat) (c : Ctx) (L R : List Gram), ds = [machD A t, ctxD c, setN (L.map nkG), setN (R.map nkG)] ∧ TabOk t st sg ∧ 0 < w ∧ w ≤ 30000 ∧ cOk w st sg c ∧ ((∀ g ∈ L, gOk w sg g) ∧ ∀ g ∈ R, gOk w sg g) ∧ (L.length ≤ 90000 ∧ R.length ≤ 90000) ∧ entAt t c.q c.s ≠ none ∧ P.ok (.new (.L .F), .lst ((behindW t c L R).map ctxD)) ds
def W_entry_at (A : Cs) : DF := fun ds P => ∃ (t : Tab) (w st sg : Nat) (c : Ctx), ds = [machD A t, ctxD c] ∧ TabOk t st sg ∧ cOk w st sg c ∧ P.ok (.fz, entD (entAt t c.q c.s)) ds
def W_closed_under (A : Cs) : DF := fun ds P => ∃ (t : Tab) (w st sg : Nat) (L R : List Gram) (C : List Ctx), ds = [machD A t, setN (L.map nkG), setN (R.map nkG), setN (C.map nkX)] ∧ TabOk t st sg ∧ 0 < w ∧ w ≤ 30000 ∧ ((∀ g ∈ L, gOk w sg g) ∧ (∀ g ∈ R, gOk w sg g) ∧ ∀ c ∈ C, cOk w st sg c) ∧ (L.length ≤ 90000 ∧ R.length ≤ 90000 ∧ C.length ≤ 90000) ∧ P.ok (.fz, .bl (closedB t L R C)) ds
def wOf : D → Int
  | .tup (_ :: .int w :: _) => w
  | _ => 0
def W_wall_taken (A : Cs) : DF := fun ds P => ∃ (t : Tab) (st sg : Nat) (d : D), ds = [machD A t, d] ∧ TabOk t st sg ∧ ppK 30 d = true ∧ wOf d ≤ 1000 ∧ P.ok (.fz, .bl (takenT t st sg d)) ds
def wlD (s : Wl) : List D := [setN (s.L.map nkG), setN (s.R.map nkG), setN (s.C.map nkX)]
def W_grown_once (A : Cs) : DF := fun ds P => ∃ (t : Tab) (w st sg : Nat) (s : Wl), ds = machD A t :: wlD s ∧ TabOk t st sg ∧ 0 < w ∧ w ≤ 30000 ∧ wOk w st sg s ∧ (s.L.length ≤ 200 ∧ s.R.length ≤ 200 ∧ s.C.length ≤ 200) ∧ match passW t s.C s with
  | none => ∀ s', P.ok (.fz, .non) (machD A t :: wlD s')
  | some s' => P.ok (.fz, .int (sizeW s' - sizeW s : Int)) (machD A t :: wlD s')
def sortW (ds : List D) : List D := ds.mergeSort leD
def wallO (w : Nat) : Option Wl → D
  | none => .non
  | some s => .tup [.str "wall", .int w, .lst (sortW (s.L.map gramD)), .lst (sortW (s.R.map gramD)), .lst (sortW (s.C.map ctxD))]
def W_wall_of (A : Cs) : DF := fun ds P => ∃ (t : Tab) (st sg w : Nat) (most : Int), ds = [machD A t, .int w, .int most] ∧ TabOk t st sg ∧ (0 < w ∧ w ≤ 1000) ∧ most ≤ 200 ∧ P.ok (.fz, wallO w (wallR t w most)) ds
/-- the first wall of the widths up to n -/
def firstW (t : Tab) (n : Nat) : Option D := (List.range n).findSome? fun i => (wallR t (i + 1) 200).map fun s => wallO (i + 1) (some s)
def optD : Option D → D
  | none => .non
  | some d => d
def W_first_wall (A : Cs) : DF := fun ds P => ∃ (t : Tab) (st sg : Nat) (n : Int), ds = [machD A t, .int n] ∧ TabOk t st sg ∧ (-1000 ≤ n ∧ n ≤ 1000) ∧ P.ok (.fz, optD (firstW t n.toNat)) ds
section
variable {A : Cs} {t : Tab} {st sg w : Nat} {P : Pf}
end
end My

namespace My
open PySem PySem.Spec PyProof.Rows L2 VL
/-! ### papers told, taken; what is shown -/
def takesT (t : Tab) (st sg : Int) (k : Str) (d : D) : Bool := if k = "same" then roundB d "same" && sameT t (natD d 1) (natD d 2) else if k = "shifted" then roundB d "shifted" && shiftT t (natD d 1) (natD d 2) else if k = "wall" then takenT t st sg d else false
def W_takes (A : Cs) : DF := fun ds P => ∃ (t : Tab) (st sg : Nat) (k : Str) (xs : List D), ds = [machD A t, .tup (.str k :: xs)] ∧ TabOk t st sg ∧ ppK 30 (.tup (.str k :: xs)) = true ∧ (k = "wall" → wOf (.tup (.str k :: xs)) ≤ 1000) ∧ natD (.tup (.str k :: xs)) 2 ≤ 10000 ∧ k ≠ "grow" ∧ P.ok (.fz, .bl (takesT t st sg k (.tup (.str k :: xs)))) ds
def stopN (t : Tab) (n : Int) : Option Nat := if 0 ≤ n ∧ endE t (runC t n.toNat cf0).2 = true then some (runC t n.toNat cf0).1 else none
def sameO (t : Tab) (n : Int) : Option (Nat × Nat) := firstP (sameR t) ((runC t n.toNat cf0).1 + 1)
def shO (t : Tab) (n : Int) : Option (Nat × Nat) := firstP (shR t) ((runC t n.toNat cf0).1 + 1)
def foundO (t : Tab) (n w : Int) : Option D := match sameO t n with
  | some p => some (paperO "same" (some p))
  | none => match shO t n with
    | some p => some (paperO "shifted" (some p))
    | none => firstW t w.toNat
def shownD (t : Tab) (n w : Int) : D := match stopN t n with
  | some k => .tup [.str "stops", .int k]
  | none => match foundO t n w with
    | some p => .tup [.str "never", p]
    | none => .tup [.str "open", .non]
def W_shown (A : Cs) : DF := fun ds P => ∃ (t : Tab) (st sg : Nat) (n w : Int), ds = [machD A t, .int n, .int w] ∧ TabOk t st sg ∧ n ≤ 5000 ∧ (-1000 ≤ w ∧ w ≤ 1000) ∧ P.ok (.fz, shownD t n w) ds
end My

namespace My
open PySem PySem.Spec PyProof.Rows L2 VL
/-! ### numbers of machines -/
def entV (st : Int) : Ent → Int
  | none => 0
  | some (w, r, s) => 1 + (w * 2 + (if r then 1 else 0)) * st + s
def entN (st v : Int) : Ent := if v = 0 then none else some ((v - 1) / st / 2, decide ((v - 1) / st % 2 ≠ 0), (v - 1) % st)
/-- figures, the least one ahead -/
def numF (V st : Int) : List Ent → Int
  | [] => 0
  | e :: es => entV st e + V * numF V st es
def manyV (st sg : Nat) : Int := 2 * (st : Int) * sg + 1
def numT (st sg : Nat) (t : Tab) : Int := numF (manyV st sg) st t.flatten
/-! the promises -/
def W_value_of (A : Cs) : DF := fun ds P => ∃ (e : Ent) (st sg : Nat), ds = [entD e, .int st] ∧ EntOk st sg e ∧ (sg ≤ 1000 ∧ st ≤ 1000) ∧ P.ok (.fz, .int (entV st e)) ds
def W_entry_of (A : Cs) : DF := fun ds P => ∃ (v : Int) (st : Nat), ds = [.int v, .int st] ∧ (0 < st ∧ st ≤ 1000) ∧ 0 ≤ v ∧ P.ok (.fz, entD (entN st v)) ds
def W_machine_of (A : Cs) : DF := fun ds P => ∃ a b n : Int, ds = [.int a, .int b, .int n] ∧ (((a < 1 ∨ b < 1 ∨ n < 0) ∧ P.ex A.C_NoNumber [] ds) ∨ ∃ st sg : Nat, a = st ∧ b = sg ∧ (0 < st ∧ st ≤ 10) ∧ (0 < sg ∧ sg ≤ 10) ∧ 0 ≤ n ∧
  ((n < manyV st sg ^ (st * sg) ∧ ∀ t, TabOk t st sg → n = numT st sg t → P.ok (.new (.O [.F]), machD A t) ds) ∨ (manyV st sg ^ (st * sg) ≤ n ∧ P.ex A.C_NoNumber [] ds)))
def W_number_of (A : Cs) : DF := fun ds P => ∃ (t : Tab) (st sg : Nat), ds = [machD A t] ∧ TabOk t st sg ∧ (st ≤ 10 ∧ sg ≤ 10) ∧ P.ok (.fz, .int (numT st sg t)) ds
end My

namespace My
open PySem PySem.Spec PyProof.Rows L2 VL
/-! ### the law's own functions, as the later laws have them -/
def W__law_nextR (A : Cs) : DF := W__law_next A
@[simp ↓] theorem W__law_nextR_eq {A : Cs} {ns : List Int} {a : Int} {P : Pf} : W__law_nextR A [.scr ns, .lst [.int a]] P = ((0 ≤ a ∧ a ≤ 1000000000) ∧ ∀ m : Int, 0 ≤ m → m < 1999999973 → P.ok (.fz, .int m) [.scr ns, .lst [.int (a + 1)]]) := rfl
def W__law_tableR (A : Cs) : DF := fun ds P => ∃ (ns : List Int) (a : Int) (st sg : Nat), ds = [.scr ns, .lst [.int a], .int st, .int sg] ∧ (0 ≤ a ∧ a ≤ 900000000) ∧ (0 < st ∧ st ≤ 100) ∧ (0 < sg ∧ sg ≤ 100) ∧
  ∀ (t : Tab) (a' : Int), TabOk t st sg → a ≤ a' → a' ≤ a + 10000 → P.ok (.new (.L .F), tabL t) [.scr ns, .lst [.int a'], .int st, .int sg]
/-- ints, texts, lists and tuples of such -/
def shI : Nat → D → Bool
  | _, .int _ => true
  | _, .str _ => true
  | n + 1, .lst xs => decide (xs.length ≤ 90000) && xs.all (shI n)
  | n + 1, .tup xs => decide (xs.length ≤ 90000) && xs.all (shI n)
  | _, _ => false
/-- a thing is the same as itself -/
def sameS1 : Nat → DF
  | 0 => fun _ _ => False
  | n + 1 => fun ds P => ∃ x : D, ds = [x, x] ∧ shI n x = true ∧ P.ok (.fz, .bl true) ds
def W__law_sameD (A : Cs) : Nat → DF := sameS1
def W__law_sameE (A : Cs) : Nat → DF := sameS1
end My

/-! in a list of any data; a list's slice with a step -/
namespace VL
open PySem PySem.Spec PyProof.Rows L2
section
variable {K : PySem.W.Frag} {W : WX} {G G' H H' : Hp} {σ : L2.St} {X : Cx} {ρ : Rho} {S S0 T : Sta}
def deepK (x : D) (y : D) (q : Bool → Prop) : Prop := match y with
  | .lst ds => (pdK 60 x = true ∧ pdK 60 (.lst ds) = true) ∧ q (ds.any fun z => eqX z x)
  | _ => False
def oInE : O2 := fun x y q => deepK x.2 y.2 fun b => q (.fz, .bl b)
def oNotInE : O2 := fun x y q => deepK x.2 y.2 fun b => q (.fz, .bl (!b))
@[simp ↓] theorem oInE_eq {x : Kd × D} {k : Kd} {ds : List D} {q : Kd × D → Prop} : oInE x (k, .lst ds) q = ((pdK 60 x.2 = true ∧ pdK 60 (.lst ds) = true) ∧ q (.fz, .bl (ds.any fun z => eqX z x.2))) := rfl
@[simp ↓] theorem oNotInE_eq {x : Kd × D} {k : Kd} {ds : List D} {q : Kd × D → Prop} : oNotInE x (k, .lst ds) q = ((pdK 60 x.2 = true ∧ pdK 60 (.lst ds) = true) ∧ q (.fz, .bl (!ds.any fun z => eqX z x.2))) := rfl
/-! slices with a step -/
def pickS {α : Type} (xs : List α) (lo hi st : Option Int) : List α := (sliceRange (sliceBounds lo hi st xs.length).1 (sliceBounds lo hi st xs.length).2.1 (sliceBounds lo hi st xs.length).2.2).filterMap (xs[·]?)
def rSlS (K : PySem.W.Frag) : V → Option Int → Option Int → Option Int → Hp → VK → Prop := fun x lo hi st H Q => ∃ a xs, x = .ref a ∧ SqL K H a xs ∧ st ≠ some 0 ∧ (pickS xs lo hi st).length ≤ sizeLine ∧ ∀ p, H p = none → Q (.ref p) (upd H p (.lst (pickS xs lo hi st)))
def SlRS (X : Cx) (r : V → Option Int → Option Int → Option Int → Hp → VK → Prop) : Prop :=
  ∀ (pins : List (Addr × Obj)) (s : Shared) (σ : L2.St) (H : Hp) (x : V) (v vl vu vs : Value) (lo hi st : Option Int) (sl : Addr) (Q : VK), Inv X pins σ H s → RelV x v → s.heap.IsSliceOf sl vl vu vs → IsPart vl lo → IsPart vu hi → IsPart vs st → r x lo hi st H Q →
    ∃ T id, typeLookup (.type T) "__getitem__" = pure (some (.builtin id)) ∧ s.TypeIs v T ∧ wpAny (model X.prog X.w) X.A (getItem v (.ref sl)) (EP X pins σ Q) X.xe s
def tSlS (r : V → Option Int → Option Int → Option Int → Hp → VK → Prop) (te : TE) (tl th ts : TO) : TE := fun σ H Q => te σ H fun x H1 => tl σ H1 fun l H2 => th σ H2 fun u H3 => ts σ H3 fun k H4 => r x l u k H4 Q
def oSlS (x : Kd × D) (lo hi st : Option Int) (q : Kd × D → Prop) : Prop := match x.2 with
  | .scr ns => (st ≠ some 0 ∧ (pickS ns lo hi st).length ≤ sizeLine) ∧ q (.new (.L .F), .lst ((pickS ns lo hi st).map .int))
  | _ => False
def wSlS (we : DE (Kd × D)) (wl wh ws : DE (Option Int)) : DE (Kd × D) := fun ρ P => we ρ ⟨fun p1 x ρ1 => wl ρ1 ⟨fun p2 lo ρ2 => wh ρ2 ⟨fun p3 hi ρ3 => ws ρ3 ⟨fun p4 st ρ4 => hold x.1 (p2 ++ (p3 ++ p4)) = true ∧ oSlS x lo hi st fun z => P.ok (p1 ++ (p2 ++ (p3 ++ p4))) z ρ4, P.ex⟩, P.ex⟩, P.ex⟩, P.ex⟩
@[simp ↓] theorem wSlS_eq {we : DE (Kd × D)} {wl wh ws : DE (Option Int)} {P : Po (Kd × D)} : wSlS we wl wh ws ρ P = we ρ ⟨fun p1 x ρ1 => wl ρ1 ⟨fun p2 lo ρ2 => wh ρ2 ⟨fun p3 hi ρ3 => ws ρ3 ⟨fun p4 st ρ4 => hold x.1 (p2 ++ (p3 ++ p4)) = true ∧ oSlS x lo hi st fun z => P.ok (p1 ++ (p2 ++ (p3 ++ p4))) z ρ4, P.ex⟩, P.ex⟩, P.ex⟩, P.ex⟩ := rfl
end
end VL

/-! isinstance(x, (T1, T2)); try .. except .. else -/
namespace VL
open PySem PySem.Spec PyProof.Rows L2
section
variable {K : PySem.W.Frag} {W : WX} {σ : L2.St} {H : Hp} {X : Cx} {Z : Ends} {E : En} {ρ : Rho}
def wIsi2 (T1 T2 : String) (we : DE (Kd × D)) : DE (Kd × D) := fun ρ P => we ρ ⟨fun p x ρ' => optK (tyN x.2) fun t => P.ok p (.fz, .bl (isTy t T1 || isTy t T2)) ρ', P.ex⟩
@[simp ↓] theorem wIsi2_eq {T1 T2 : String} {we : DE (Kd × D)} {P : Po (Kd × D)} : wIsi2 T1 T2 we ρ P = we ρ ⟨fun p x ρ' => optK (tyN x.2) fun t => P.ok p (.fz, .bl (isTy t T1 || isTy t T2)) ρ', P.ex⟩ := rfl
/-- try: b except C: su else: u -/
def wTryE (C : Addr) (b su u : DS) : DS := fun E ρ => b { E with nx := u E, ex := fun C' fl ρ' => (C' = C ∧ fl = []) ∧ su { E with ex := fun _ _ _ => False } ρ' } ρ
@[simp ↓] theorem wTryE_eq {C : Addr} {b su u : DS} : wTryE C b su u E ρ = b { E with nx := u E, ex := fun C' fl ρ' => (C' = C ∧ fl = []) ∧ su { E with ex := fun _ _ _ => False } ρ' } ρ := rfl
end
end VL

/-! ranges of any numbers; "..".join(xs); texts put together -/
namespace VLL
open PySem PySem.Spec PyProof.Rows L2
section
variable {X : Cx} {tg : Expr}
def iRngL (ta : TA) : TI := fun σ H R => ta σ H fun vs H1 => ∃ i j : Int, vs = [.int i, .int j] ∧ R (Itr i (j - i).toNat) H1
end
end VLL
namespace VL
open PySem PySem.Spec PyProof.Rows L2
section
variable {K : PySem.W.Frag} {W : WX} {G G' H H' H0 : Hp} {σ : L2.St} {ρ : Rho} {X : Cx} {S S0 S1 T T1 T2 U : Sta} {E : En} {Z : Ends}
def rngL (xs : List (Kd × D)) (q : List D → Prop) : Prop := match xs with
  | [(_, .int i), (_, .int j)] => q (rangeD i (j - i).toNat)
  | _ => False
def wRngL (wa : DE (List (Kd × D))) : DE (List D) := fun ρ P => wa ρ ⟨fun p xs ρ' => rngL xs fun ds => P.ok p ds ρ', P.ex⟩
@[simp ↓] theorem wRngL_eq {wa : DE (List (Kd × D))} {P : Po (List D)} : wRngL wa ρ P = wa ρ ⟨fun p xs ρ' => rngL xs fun ds => P.ok p ds ρ', P.ex⟩ := rfl
@[simp ↓] theorem rngL_eq {k k' : Kd} {i j : Int} {q : List D → Prop} : rngL [(k, .int i), (k', .int j)] q = q (rangeD i (j - i).toNat) := rfl
/-! texts -/
def strsOf : List D → Option (List Str)
  | [] => some []
  | .str x :: r => match strsOf r with
    | some xs => some (x :: xs)
    | none => none
  | _ :: _ => none
theorem DtA.strs_of : ∀ {vs : List V} {ds : List D} {ns : List Str}, DtA K G vs ds → strsOf ds = some ns → vs = ns.map V.str
  | _, _, _, .nil, e => by cases e; rfl
  | _, _, _, .cons h t, e => by
    cases h <;> simp only [strsOf] at e <;> first
      | cases e
      | (split at e
         · rename_i e'
           cases e
           rw [DtA.strs_of t e']
           rfl
         · cases e)
@[simp] theorem strsOf_map {α : Type} {f : α → Str} : ∀ {xs : List α}, strsOf (xs.map fun x => D.str (f x)) = some (xs.map f)
  | [] => rfl
  | x :: xs => by simp [strsOf, strsOf_map (f := f) (xs := xs)]
def wJoin (a : Str) (we : DE (Kd × D)) : DE (Kd × D) := fun ρ P => we ρ ⟨fun p y ρ' => lstK y fun ds => optK (strsOf ds) fun ys => (ys.map (·.length)).sum + ys.length * a.length ≤ 100000 ∧ P.ok p (.fz, .str (Txt.join a ys)) ρ', P.ex⟩
@[simp ↓] theorem wJoin_eq {a : Str} {we : DE (Kd × D)} {P : Po (Kd × D)} : wJoin a we ρ P = we ρ ⟨fun p y ρ' => lstK y fun ds => optK (strsOf ds) fun ys => (ys.map (·.length)).sum + ys.length * a.length ≤ 100000 ∧ P.ok p (.fz, .str (Txt.join a ys)) ρ', P.ex⟩ := rfl
theorem te_join {a : Str} {we : DE (Kd × D)} {Q : VK} (h : te K W (wJoin a we) σ H Q) : tM1 (fun x xs H Q => ∃ a p, ∃ ys : List Str, x = .str a ∧ xs = [.ref p] ∧ (SqL K H p (ys.map V.str) ∨ SqT K H p (ys.map V.str)) ∧ (ys.map (·.length)).sum + ys.length * a.length ≤ 16777216 ∧ Q (.str (Txt.join a ys)) H) (tC (.str a)) (te K W we) σ H Q := by
  obtain ⟨S, P, rfl, rfl, ok, w, k, ex⟩ := h
  refine ⟨⟨a, rfl⟩, S, _, rfl, rfl, ok, w, fun p x T e es okT t tc v hv => ?_, ex⟩
  obtain ⟨b, vs, ds, rfl, h1, h2, h⟩ := Has.lstR (x := x) okT hv e
  obtain ⟨ys, ey, hz, h⟩ := optK_of h
  have e2 := h2.strs_of ey
  subst e2
  exact ⟨a, b, ys, rfl, rfl, .inl (.of h1), by omega, k _ _ T h es okT t tc _ (.str _)⟩
theorem q_join {a : Str} {e : Expr} {we : DE (Kd × D)} {cp apos pos : Pos} {tk} (he : PE X e (te X.K W we)) (hs : starEach [e] X.env = [(false, eval e X.env)] := by rfl) (hbase : attributeBase (.Constant (.str a) tk cp) "join" X.env (eval (.Constant (.str a) tk cp) X.env) = eval (.Constant (.str a) tk cp) X.env := by rfl) (hline : (apos.endLine == pos.line) = true := by rfl) :
    PE X (.Call (.Attribute (.Constant (.str a) tk cp) "join" apos) [e] [] pos) (te X.K W (wJoin a we)) := PE.imp (pe_join pe_str he hs hbase hline) fun _ _ _ h => te_join h
/-- x += y, texts -/
def oAddS : O2 := fun x y q => match x.2, y.2 with
  | .str a, .str b => small (a.length + b.length) = true ∧ q (.fz, .str (a ++ b))
  | _, _ => False
@[simp ↓] theorem oAddS_eq {k k' : Kd} {a b : Str} {q : Kd × D → Prop} : oAddS (k, .str a) (k', .str b) q = (small (a.length + b.length) = true ∧ q (.fz, .str (a ++ b))) := rfl
end
end VL

/-! try: .. except C1: .. except C2 as e: y = [.., ..][int(not isinstance(e, C1))] -/
namespace VLX
open PySem PySem.Spec PyProof.Rows L2
/-- the wishes of an exception: the class c1 is not bound, c2 is bound to slot i while its suite runs -/
def wTwo (K : PySem.W.Frag) (c1 c2 : Value) (i : Nat) (ts1 ts2 : Addr → Value → Option Addr → TS) (Wout : WX) (D : Ends) : WX := fun cls d σ H =>
  ∃ b, PySem.W.exmOne K cls c1 = some b ∧ (b = true → ∀ a, H a = none → ts1 a cls d D σ H) ∧ (b = false → wAs K c2 i ts2 Wout D cls d σ H)
section
variable {X : Cx} {x1 x2 n : Str} {c1 c2 : Value} {i : Nat} {body su1 su2 : List Stmt} {b1 b2 : Stmt} {np1 np2 hp1 hp2 pos : Pos} {tb : WX → TS} {ts1 ts2 : Addr → Value → Option Addr → TS} {Wout : WX}
end
end VLX
namespace VLX
open PySem PySem.Spec PyProof.Rows L2
/-- y = [z0, z1][int(not isinstance(e, C))], e in slot i: the exception a, no C -/
def tSel (i j : Nat) (z0 z1 : Str) (a : Addr) : TS := fun D σ H => σ[i]? = some (some (.ref a)) ∧ ∀ p, H p = none → D.nx (σ.set j (some (.str z1))) (upd H p (.lst [.str z0, .str z1]))
end VLX
namespace VL
open PySem PySem.Spec PyProof.Rows L2
section
variable {K : PySem.W.Frag} {W : WX} {σ : L2.St} {H : Hp} {X : Cx} {Z : Ends} {E : En} {ρ : Rho}
/-- try: b / except C1: su / except C2 as e: y = .. (the text z; e in slot i, y in slot j) -/
def wTryT (C1 C2 : Addr) (i j : Nat) (z : Str) (b su : DS) : DS := fun E ρ => b { E with ex := fun C fl ρ' => fl = [] ∧ ((C = C1 ∧ su { E with ex := fun _ _ _ => False } ρ') ∨ (C = C2 ∧ ρ'[i]? = some none ∧ okSlot ρ' j = true ∧ E.nx (ρ'.set j (some (.F, .str z))))) } ρ
@[simp ↓] theorem wTryT_eq {C1 C2 : Addr} {i j : Nat} {z : Str} {b su : DS} : wTryT C1 C2 i j z b su E ρ = b { E with ex := fun C fl ρ' => fl = [] ∧ ((C = C1 ∧ su { E with ex := fun _ _ _ => False } ρ') ∨ (C = C2 ∧ ρ'[i]? = some none ∧ okSlot ρ' j = true ∧ E.nx (ρ'.set j (some (.F, .str z))))) } ρ := rfl
end
end VL

/-! a name in an argument list whose thing a later argument changes: its value is read behind the rest -/
namespace VL
open PySem PySem.Spec PyProof.Rows L2
section
variable {K : PySem.W.Frag} {W : WX} {H : Hp} {σ : L2.St} {ρ : Rho} {X : Cx}
def wConsL (i : Nat) (wr : DE (List (Kd × D))) : DE (List (Kd × D)) := fun ρ P => (∃ md, ρ[i]? = some (some md)) ∧ wr ρ ⟨fun p2 xs ρ2 => slotK ρ2 i fun m d => P.ok p2 ((kAt i [] m.st, d) :: xs) ρ2, P.ex⟩
variable {PA' : Po (List (Kd × D))}
@[simp ↓] theorem wConsL_eq {i : Nat} {r : DE (List (Kd × D))} : wConsL i r ρ PA' = (slotK ρ i (fun _ _ => True) ∧ r ρ ⟨fun p2 xs ρ2 => slotK ρ2 i fun m d => PA'.ok p2 ((kAt i [] m.st, d) :: xs) ρ2, PA'.ex⟩) := by
  unfold wConsL
  congr 1
  unfold slotK
  cases ρ[i]? with
  | none => simp
  | some x => cases x <;> simp
end
end VL

/-! lists of one's own things, displayed -/
namespace VL
open PySem PySem.Spec PyProof.Rows L2
section
variable {K : PySem.W.Frag} {W : WX} {G G' H H' H0 : Hp} {σ : L2.St} {ρ : Rho} {f f' : Own} {pin : Nat → Option V} {X : Cx} {S S0 S1 S2 T T1 T2 U : Sta} {E : En} {Z : Ends}
/-- [x, y, ..], each held as m -/
def allN (m : Md) (xs : List (Kd × D)) : Prop := ∀ x ∈ xs, mdN x.1 = m
@[simp ↓] theorem allN_n {m : Md} : allN m [] = True := by simp [allN]
@[simp ↓] theorem allN_c {m : Md} {x : Kd × D} {xs : List (Kd × D)} : allN m (x :: xs) = (mdN x.1 = m ∧ allN m xs) := by simp [allN]
def wLstO (m : Md) (wa : DE (List (Kd × D))) : DE (Kd × D) := fun ρ P => wa ρ ⟨fun p xs ρ' => (allN m xs ∧ small xs.length = true) ∧ P.ok p (.new (.L m), .lst (xs.map (·.2))) ρ', P.ex⟩
theorem HasN.ra {m : Md} {vs : List V} {ds : List (Kd × D)} {fp : List Addr} (h : HasN K S0 S vs ds fp) (hm : allN m ds) (e : Ex S.G G') (k : ∀ a ∈ fp, ∀ o, S.H a = some o → H' a = some o) : RA K G' H' m vs (ds.map (·.2)) fp := by
  induction h with
  | nil => exact .nil
  | fz h _ ih =>
    rw [allN_c] at hm
    obtain ⟨rfl, hm⟩ := hm
    exact RA.cons (fp := []) (.F (h.mono e)) (ih hm k)
  | new r n kk dj _ ih =>
    rw [allN_c] at hm
    obtain ⟨rfl, hm⟩ := hm
    exact .cons (r.keep e fun a ha => k a (List.mem_append_left _ ha)) (ih hm fun a ha => k a (List.mem_append_right _ ha))
@[simp ↓] theorem wLstO_eq {m : Md} {wa : DE (List (Kd × D))} {P : Po (Kd × D)} : wLstO m wa ρ P = wa ρ ⟨fun p xs ρ' => (allN m xs ∧ small xs.length = true) ∧ P.ok p (.new (.L m), .lst (xs.map (·.2))) ρ', P.ex⟩ := rfl
end
end VL

/-! texts: methods, f-strings, int(text) -/
namespace VL
open PySem PySem.Spec PyProof.Rows L2
section
variable {K : PySem.W.Frag} {W : WX} {G G' H H' H0 : Hp} {σ : L2.St} {ρ : Rho} {f f' : Own} {pin : Nat → Option V} {X : Cx} {S S0 S1 S2 T T1 T2 U : Sta} {E : En} {Z : Ends}
/-- o.m(e), o a text -/
def wSM (o : OL) (wr we : DE (Kd × D)) : DE (Kd × D) := fun ρ P => wr ρ ⟨fun p1 x ρ1 => match x.2 with
  | .str a => we ρ1 ⟨fun p2 y ρ2 => o [(.fz, .str a), y] fun z => P.ok (p1 ++ p2) z ρ2, P.ex⟩
  | _ => False, P.ex⟩
theorem te_sm {r : V → List V → Hp → VK → Prop} {o : OL} {wr we : DE (Kd × D)} {Q : VK} (hr : OkRL K (fun xs H Q => ∃ x y, xs = [x, y] ∧ r x [y] H Q) o) (h : te K W (wSM o wr we) σ H Q) : tM1 r (te K W wr) (te K W we) σ H Q := by
  obtain ⟨S, P, rfl, rfl, ok, w, k, ex⟩ := h
  refine ⟨S, _, rfl, rfl, ok, w, fun p1 x S1 w1 e1 ok1 t1 pr1 v1 h1 => ?_, ex⟩
  obtain ⟨kx, dx⟩ := x
  cases dx with
  | str a =>
    have w1 : we S1.ρ ⟨fun p2 y ρ2 => o [(.fz, .str a), y] fun z => P.ok (p1 ++ p2) z ρ2, P.ex⟩ := w1
    obtain rfl := Has.str_inv ok1 (kd := kx) h1
    refine ⟨⟨a, rfl⟩, S1, _, e1, rfl, ok1, w1, fun p2 y S2 w2 e2 ok2 t2 pr2 v2 h2 => ?_, fun C fl T e es okT tT dd hd => ex C fl T e es okT (t1.trans tT) dd hd⟩
    have hA : HasA K S S2 [.str a, v2] [(.fz, .str a), y] := .cons (Dt.str a) (.cons (h2.from t1) .nil)
    obtain ⟨x', y', e, hh⟩ := hr S S2 [.str a, v2] _ Q _ ok2 hA w2 fun z qz v G' H' g hz => k _ _ (S2.at G' H') qz e2 (Sta.grow ok2 g) ((t1.trans t2).trans g.to) ((pr1.trans pr2).add g.tch) v (hz.from (t1.trans t2))
    cases e
    exact hh
  | _ => exact w1.elim
theorem q_sm {id : String} {name : Str} {apos pos : Pos} {r : V → List V → Hp → VK → Prop} {o e : Expr} {ol : OL} {wr we : DE (Kd × D)} (slot : Slot "str" name id) (ty : typeOf (.builtin id) = pure (.type "method_descriptor")) (rule : MtR X id r) (hr : OkRL X.K (fun xs H Q => ∃ x y, xs = [x, y] ∧ r x [y] H Q) ol) (ho : PE X o (te X.K W wr)) (he : PE X e (te X.K W we))
    (hs : starEach [e] X.env = [(false, eval e X.env)] := by rfl) (hbase : attributeBase o name X.env (eval o X.env) = eval o X.env := by rfl) (hline : (apos.endLine == pos.line) = true := by rfl) :
    PE X (.Call (.Attribute o name apos) [e] [] pos) (te X.K W (wSM ol wr we)) := PE.imp (pe_m1 slot ty rule ho he hs hbase hline) fun _ _ _ h => te_sm hr h
@[simp ↓] theorem wSM_eq {o : OL} {wr we : DE (Kd × D)} {P : Po (Kd × D)} : wSM o wr we ρ P = wr ρ ⟨fun p1 x ρ1 => match x.2 with
  | .str a => we ρ1 ⟨fun p2 y ρ2 => o [(.fz, .str a), y] fun z => P.ok (p1 ++ p2) z ρ2, P.ex⟩
  | _ => False, P.ex⟩ := rfl
/-- two texts -/
def strK2 (xs : List (Kd × D)) (q : Str → Str → Prop) : Prop := match xs with
  | [(_, .str a), (_, .str b)] => q a b
  | _ => False
theorem strK2_of {xs : List (Kd × D)} {q : Str → Str → Prop} {vs : List V} (ok : S.ok K) (hA : HasA K S0 S vs xs) (h : strK2 xs q) : ∃ a b, vs = [.str a, .str b] ∧ q a b := by
  unfold strK2 at h
  split at h
  · rename_i k1 a k2 b
    obtain ⟨v, u, rfl, hx, hy⟩ := hA.two
    obtain rfl := Has.str_inv ok (kd := k1) hx
    obtain rfl := Has.str_inv ok (kd := k2) hy
    exact ⟨a, b, rfl, h⟩
  · exact h.elim
@[simp ↓] theorem strK2_eq {k k' : Kd} {a b : Str} {q : Str → Str → Prop} : strK2 [(k, .str a), (k', .str b)] q = q a b := rfl
def oStarts : OL := fun xs q => strK2 xs fun a b => q (.fz, .bl (Txt.startswith a b))
theorem ok_Starts : OkRL K (fun xs H Q => ∃ x y, xs = [x, y] ∧ (fun (x : V) (xs : List V) (H : Hp) (Q : VK) => ∃ a b, x = .str a ∧ xs = [.str b] ∧ Q (.bl (Txt.startswith a b)) H) x [y] H Q) oStarts := fun S0 S vs xs Q q ok hA h0 k => by
  obtain ⟨a, b, rfl, h⟩ := strK2_of ok hA h0
  exact ⟨_, _, rfl, a, b, rfl, rfl, stay ok k h (v := .bl _) (.bl _)⟩
def oFind : OL := fun xs q => strK2 xs fun a b => q (.fz, .int (Txt.find a b))
theorem ok_Find : OkRL K (fun xs H Q => ∃ x y, xs = [x, y] ∧ (fun (x : V) (xs : List V) (H : Hp) (Q : VK) => ∃ a b, x = .str a ∧ xs = [.str b] ∧ Q (.int (Txt.find a b)) H) x [y] H Q) oFind := fun S0 S vs xs Q q ok hA h0 k => by
  obtain ⟨a, b, rfl, h⟩ := strK2_of ok hA h0
  exact ⟨_, _, rfl, a, b, rfl, rfl, stay ok k h (v := .int _) (.int _)⟩
def oRfind : OL := fun xs q => strK2 xs fun a b => q (.fz, .int (Txt.rfind a b))
def oStrip : OL := fun xs q => strK2 xs fun a b => small a.length = true ∧ q (.fz, .str (Txt.stripChars a b))
theorem ok_Strip : OkRL K (fun xs H Q => ∃ x y, xs = [x, y] ∧ (fun (x : V) (xs : List V) (H : Hp) (Q : VK) => ∃ a b, x = .str a ∧ xs = [.str b] ∧ a.length ≤ sizeLine ∧ Q (.str (Txt.stripChars a b)) H) x [y] H Q) oStrip := fun S0 S vs xs Q q ok hA h0 k => by
  obtain ⟨a, b, rfl, hz, h⟩ := strK2_of ok hA h0
  exact ⟨_, _, rfl, a, b, rfl, rfl, small_sz hz, stay ok k h (v := .str _) (.str _)⟩
theorem DtA.strs : ∀ ys : List Str, DtA K G (ys.map V.str) (ys.map D.str)
  | [] => .nil
  | y :: ys => .cons (.str y) (DtA.strs ys)
def oSplit : OL := fun xs q => strK2 xs fun a b => ((b.length == 0) = false ∧ a.length ≤ 80000) ∧ q (.new (.L .F), .lst ((Txt.split a b).map .str))
theorem ok_Split : OkRL K (fun xs H Q => ∃ x y, xs = [x, y] ∧ (fun (x : V) (xs : List V) (H : Hp) (Q : VK) => ∃ a b, x = .str a ∧ xs = [.str b] ∧ (b.length == 0) = false ∧ a.length + 2 ≤ sizeLine ∧ rNewStrs (Txt.split a b) H Q) x [y] H Q) oSplit := fun S0 S vs xs Q q ok hA h0 k => by
  obtain ⟨a, b, rfl, hz, h⟩ := strK2_of ok hA h0
  exact ⟨_, _, rfl, a, b, rfl, rfl, hz.1, by have := hz.2; rw [PySem.sizeLine_eq]; omega, fun p hp => new_lst ok k h (DtA.strs _) hp⟩
def oPart : OL := fun xs q => strK2 xs fun a b => ((b.length == 0) = false ∧ a.length ≤ 80000) ∧ q (.fz, .tup [.str (Txt.partition a b).1, .str (Txt.partition a b).2.1, .str (Txt.partition a b).2.2])
theorem ok_Part : OkRL K (fun xs H Q => ∃ x y, xs = [x, y] ∧ (fun (x : V) (xs : List V) (H : Hp) (Q : VK) => ∃ a b, x = .str a ∧ xs = [.str b] ∧ (b.length == 0) = false ∧ a.length ≤ sizeLine ∧ ∀ p, H p = none → Q (.ref p) (upd H p (.tup [.str (Txt.partition a b).1, .str (Txt.partition a b).2.1, .str (Txt.partition a b).2.2]))) x [y] H Q) oPart := fun S0 S vs xs Q q ok hA h0 k => by
  obtain ⟨a, b, rfl, hz, h⟩ := strK2_of ok hA h0
  exact ⟨_, _, rfl, a, b, rfl, rfl, hz.1, by have := hz.2; rw [PySem.sizeLine_eq]; omega, fun p hp => new_tup ok k h (.cons (.str _) (.cons (.str _) (.cons (.str _) .nil))) hp⟩
/-- int(..) of a text -/
def oIntT : OL := fun xs q => one1 xs fun x => match x.2 with
  | .str a => small a.length = true ∧ a.length ≤ 640 ∧ optK (PySem.intText? a) fun n => q (.fz, .int n)
  | _ => False
theorem ok_IntT : OkRL K (fun xs H Q => ∃ a n, xs = [.str a] ∧ PySem.intText? a = some n ∧ a.length ≤ 640 ∧ Q (.int n) H) oIntT := fun S0 S vs xs Q q ok hA h0 k => by
  obtain ⟨⟨kd, d⟩, rfl, h⟩ := one1_of h0
  obtain ⟨v, rfl, hx⟩ := hA.one
  cases d with
  | str a =>
    obtain rfl := Has.str_inv ok (kd := kd) hx
    obtain ⟨_, hl, h⟩ := h
    obtain ⟨n, hn, h⟩ := optK_of h
    exact ⟨a, n, rfl, hn, hl, stay ok k h (v := .int _) (.int _)⟩
  | _ => exact h.elim
@[simp ↓] theorem oIntT_eq {k : Kd} {a : Str} {q : Kd × D → Prop} : oIntT [(k, .str a)] q = (small a.length = true ∧ a.length ≤ 640 ∧ optK (PySem.intText? a) fun n => q (.fz, .int n)) := rfl
@[simp ↓] theorem oStarts_eq {k k' : Kd} {a b : Str} {q : Kd × D → Prop} : oStarts [(k, .str a), (k', .str b)] q = q (.fz, .bl (Txt.startswith a b)) := rfl
@[simp ↓] theorem oFind_eq {k k' : Kd} {a b : Str} {q : Kd × D → Prop} : oFind [(k, .str a), (k', .str b)] q = q (.fz, .int (Txt.find a b)) := rfl
@[simp ↓] theorem oRfind_eq {k k' : Kd} {a b : Str} {q : Kd × D → Prop} : oRfind [(k, .str a), (k', .str b)] q = q (.fz, .int (Txt.rfind a b)) := rfl
@[simp ↓] theorem oStrip_eq {k k' : Kd} {a b : Str} {q : Kd × D → Prop} : oStrip [(k, .str a), (k', .str b)] q = (small a.length = true ∧ q (.fz, .str (Txt.stripChars a b))) := rfl
@[simp ↓] theorem oSplit_eq {k k' : Kd} {a b : Str} {q : Kd × D → Prop} : oSplit [(k, .str a), (k', .str b)] q = (((b.length == 0) = false ∧ a.length ≤ 80000) ∧ q (.new (.L .F), .lst ((Txt.split a b).map .str))) := rfl
@[simp ↓] theorem oPart_eq {k k' : Kd} {a b : Str} {q : Kd × D → Prop} : oPart [(k, .str a), (k', .str b)] q = (((b.length == 0) = false ∧ a.length ≤ 80000) ∧ q (.fz, .tup [.str (Txt.partition a b).1, .str (Txt.partition a b).2.1, .str (Txt.partition a b).2.2])) := rfl
theorem lit_len {s : String} : (Str.ofString s).length = s.length := by
  rw [PySem.Str.ofString_eq_toList]
  simp only [PySem.Str.length, List.size_toArray, List.length_map]
  first | exact String.length_toList | rfl | simp [String.length]
@[simp] theorem lit_len0 {s : String} : ((Str.ofString s).length == 0) = (s.length == 0) := by rw [lit_len]
/-! f-strings -/
def wFmt (we : DE (Kd × D)) : DE (Kd × D) := fun ρ P => we ρ ⟨fun p x ρ' => match x.2 with
  | .str y => small y.length = true ∧ P.ok p (.fz, .str y) ρ'
  | .int i => i.natAbs.log2 < 1920 ∧ P.ok p (.fz, .str (toString i)) ρ'
  | _ => False, P.ex⟩
@[simp ↓] theorem wFmt_eq {we : DE (Kd × D)} {P : Po (Kd × D)} : wFmt we ρ P = we ρ ⟨fun p x ρ' => match x.2 with
  | .str y => small y.length = true ∧ P.ok p (.fz, .str y) ρ'
  | .int i => i.natAbs.log2 < 1920 ∧ P.ok p (.fz, .str (toString i)) ρ'
  | _ => False, P.ex⟩ := rfl
def wJs : List (DE (Kd × D)) → Str → DE (Kd × D)
  | [], acc => fun ρ P => P.ok [] (.fz, .str acc) ρ
  | w :: ws, acc => fun ρ P => w ρ ⟨fun p1 x ρ1 => match x.2 with
    | .str y => small (acc ++ y).length = true ∧ wJs ws (acc ++ y) ρ1 ⟨fun p2 z ρ2 => P.ok (p1 ++ p2) z ρ2, P.ex⟩
    | _ => False, P.ex⟩
@[simp ↓] theorem wJs_n {acc : Str} {P : Po (Kd × D)} : wJs [] acc ρ P = P.ok [] (.fz, .str acc) ρ := rfl
@[simp ↓] theorem wJs_c {w : DE (Kd × D)} {ws : List (DE (Kd × D))} {acc : Str} {P : Po (Kd × D)} : wJs (w :: ws) acc ρ P = w ρ ⟨fun p1 x ρ1 => match x.2 with
    | .str y => small (acc ++ y).length = true ∧ wJs ws (acc ++ y) ρ1 ⟨fun p2 z ρ2 => P.ok (p1 ++ p2) z ρ2, P.ex⟩
    | _ => False, P.ex⟩ := rfl
/-! isinstance(x, C), x an instance of C -/
def isObjD (C : Addr) : D → Prop
  | .obj C' _ => C' = C
  | _ => False
def wIsC (C : Addr) (we : DE (Kd × D)) : DE (Kd × D) := fun ρ P => we ρ ⟨fun p x ρ' => (x.1 = .fz ∧ isObjD C x.2) ∧ P.ok p (.fz, .bl true) ρ', P.ex⟩
@[simp ↓] theorem wIsC_eq {C : Addr} {we : DE (Kd × D)} {P : Po (Kd × D)} : wIsC C we ρ P = we ρ ⟨fun p x ρ' => (x.1 = .fz ∧ isObjD C x.2) ∧ P.ok p (.fz, .bl true) ρ', P.ex⟩ := rfl
@[simp ↓] theorem isObjD_o {C C' : Addr} {fs : List (Str × D)} : isObjD C (.obj C' fs) = (C' = C) := rfl
theorem te_isC {C : Addr} {we : DE (Kd × D)} {Q : VK} (h : te K W (wIsC C we) σ H Q) : tCB (fun xs H Q => ∃ a dx fs, xs = [.ref a, .ref C] ∧ H a = some (.ins C dx fs) ∧ Q (.bl true) H) (tCons (te K W we) (tCons (tC (.ref C)) tNil)) σ H Q := by
  obtain ⟨S, P, rfl, rfl, ok, w, k, ex⟩ := h
  refine ⟨S, _, rfl, rfl, ok, w, fun p x T' e es okT t tc v hv => ?_, ex⟩
  obtain ⟨kx, dx⟩ := x
  obtain ⟨⟨rfl, e1⟩, q⟩ := e
  have hv : Dt K T'.G v dx := hv
  cases hv with
  | obj hG _ _ =>
    cases e1
    exact ⟨_, _, _, rfl, okT.ext _ _ hG, k _ _ T' q es okT t tc _ (.bl _)⟩
  | _ => exact e1.elim
theorem q_isC {C : Addr} {x : Str} {e : Expr} {we : DE (Kd × D)} {p p2 pos : Pos} (hC : C8.InsC X.K C) (hm : X.mg "isinstance" = none) (hmc : X.mg x = some (.ref C)) (he : PE X e (te X.K W we)) (hg : Gl X "isinstance" := by rfl) (hgT : Gl X x := by rfl)
    (hdb : (x == ("__debug__" : Str)) = false := by decide) (hs : starEach [e, .Name x p2] X.env = (false, eval e X.env) :: starEach [.Name x p2] X.env := by rfl) (hs2 : starEach [.Name x p2] X.env = (false, eval (.Name x p2) X.env) :: starEach [] X.env := by rfl) (hpl : (backTo pos (starEach [.Name x p2] X.env)).any (·.1) = false := by rfl) :
    PE X (.Call (.Name "isinstance" p) [e, .Name x p2] [] pos) (te X.K W (wIsC C we)) :=
  PE.imp (pe_callB (C8.call_isC hC) hg hm (by rfl) (pa_cons he (pa_cons (pe_glob (v := .ref C) hgT hmc rfl hdb) pa_nil hs2) hs) (by decide) (by decide) hs hpl) fun _ _ _ h => te_isC h
end
end VL

namespace My
open PySem PySem.Spec PyProof.Rows L2 VL
def strI (i : Int) : Str := toString i
def txC (q p : Int) (m : Cells) (k : Int) : Str := if k = p then ("[" : Str) ++ strI q ++ (":" : Str) ++ strI (cAt m k) ++ ("]" : Str) else strI (cAt m k)
def drawT (q p : Int) (m : Cells) (lo : Int) : Nat → Str
  | 0 => ("" : Str)
  | n + 1 => drawT q p m lo n ++ txC q p m (lo + n)
structure DrOk (q p : Int) (m : Cells) (lo hi : Int) : Prop where
  hq : 0 ≤ q ∧ q < 12
  ha : m.Pairwise fun a b => a.1 < b.1
  hv : ∀ x ∈ m, 0 < x.2 ∧ x.2 < 8
  hk : ∀ y ∈ p :: m.map (·.1), lo ≤ y ∧ y ≤ hi
  hlo : lo ∈ p :: m.map (·.1)
  hhi : hi ∈ p :: m.map (·.1)
  hw : hi - lo ≤ 200
  hl : m.length ≤ 200
def W_drawn (A : Cs) : DF := fun ds P => ∃ (q p : Int) (m : Cells) (lo hi : Int), ds = [shotD q p m] ∧ DrOk q p m lo hi ∧ P.ok (.fz, .str (drawT q p m lo (hi + 1 - lo).toNat)) ds
def W__law_drawn (A : Cs) : DF := fun ds P => ∃ (q p : Int) (m : Cells) (lo hi : Int), ds = [shotD q p m] ∧ DrOk q p m lo hi ∧ P.ok (.fz, .str (drawT q p m lo (hi + 1 - lo).toNat)) ds
theorem strI_r {z : Int} : Str.ofString z.repr = strI z := rfl
theorem str_app {a b : Str} : (a ++ b).length = a.length + b.length := PySem.Str.length_append a b
end My

namespace My
open PySem PySem.Spec PyProof.Rows L2 VL
open TL PySem.StrLaws
/-! ### machines as texts -/
def figS : Str := "0123456789"
def entS : Ent → Str
  | none => ("-" : Str)
  | some (w, r, s) => strI w ++ wayS r ++ strI s
def rowS (r : List Ent) : Str := Txt.join (" " : Str) (r.map entS)
def tabS (t : Tab) : Str := Txt.join ("\n" : Str) (t.map rowS)
/-! what reading asks of a piece -/
def figB (a : Str) : Bool := decide (1 ≤ a.length ∧ a.length ≤ 60) && decide (Txt.stripChars a figS = ("" : Str)) && (decide (a = ("0" : Str)) || !Txt.startswith a ("0" : Str))
def partS (a : Str) : Str × Str × Str := if Txt.find a ("l" : Str) < 0 then Txt.partition a ("r" : Str) else Txt.partition a ("l" : Str)
def entB (a : Str) : Bool := decide (a = ("-" : Str)) || (decide ((partS a).2.1 ≠ ("" : Str)) && figB (partS a).1 && figB (partS a).2.2)
/-! numbers as texts -/
theorem strI_of {i : Int} (h : 0 ≤ i) : tl (strI i) = numL i.toNat := by
  have : i = (i.toNat : Int) := by omega
  rw [this]
  exact tl_num _
def big : Int := 10 ^ 60
theorem numL_lenB {n : Nat} (h : (n : Int) < big) : 1 ≤ (numL n).length ∧ (numL n).length ≤ 60 := by
  refine ⟨List.length_pos_iff.mpr (numL_ne n), numL_len (by decide) ?_⟩
  have h : (n : Int) < 10 ^ 60 := h
  have e : ((10 : Int) ^ 60) = ((10 ^ 60 : Nat) : Int) := by norm_cast
  rw [e] at h
  exact Int.ofNat_lt.mp h
/-- an entry that can be written: numbers of at most sixty figures -/
def EntF : Ent → Prop
  | none => True
  | some (w, _, s) => (0 ≤ w ∧ w < big) ∧ 0 ≤ s ∧ s < big
theorem EntOk.f {st sg : Nat} {e : Ent} (h : EntOk st sg e) (h1 : st ≤ 1000) (h2 : sg ≤ 1000) : EntF e := by
  cases e with
  | none => trivial
  | some x =>
    obtain ⟨w, r, s⟩ := x
    obtain ⟨⟨a1, a2⟩, a3, a4⟩ := h
    have : (1000 : Int) < big := by decide
    exact ⟨⟨a1, by omega⟩, a3, by omega⟩
/-- a table that can be written -/
structure TabF (t : Tab) : Prop where
  ne : t ≠ []
  row : ∀ r ∈ t, r ≠ [] ∧ ∀ e ∈ r, EntF e
theorem TabOk.f {t : Tab} {st sg : Nat} (ht : TabOk t st sg) : TabF t := by
  have h1 := ht.len
  have h2 := ht.st0
  have h3 := ht.sg0
  refine ⟨fun h => ?_, fun r hr => ⟨fun h => ?_, fun e he => ((ht.row r hr).2 e he).f ht.stS ht.sgS⟩⟩
  · subst h; simp only [List.length_nil] at h1; omega
  · have := (ht.row r hr).1
    subst h; simp only [List.length_nil] at this; omega
theorem takeW {p : Nat → Bool} : ∀ {l : List Nat}, (∀ c ∈ l, p c = true) → l.takeWhile p = l
  | [], _ => rfl
  | c :: l, h => by
    rw [List.takeWhile_cons, h c (by simp), if_pos rfl, takeW fun x hx => h x (by simp [hx])]
theorem strip_all {a : Str} (h : ∀ c ∈ tl a, 48 ≤ c ∧ c ≤ 57) : Txt.stripChars a figS = ("" : Str) := by
  have hc : ∀ c ∈ tl a, figS.cps.contains c = true := fun c hc => by
    have := h c hc
    have h2 : c = 48 ∨ c = 49 ∨ c = 50 ∨ c = 51 ∨ c = 52 ∨ c = 53 ∨ c = 54 ∨ c = 55 ∨ c = 56 ∨ c = 57 := by omega
    rcases h2 with rfl | rfl | rfl | rfl | rfl | rfl | rfl | rfl | rfl | rfl <;> decide +kernel
  have lo : stripLo figS.cps.contains true a = (tl a).length := by
    show (a.cps.toList.takeWhile figS.cps.contains).length = _
    rw [takeW hc]
  have hi : stripHi figS.cps.contains true a (tl a).length = a.length := by
    show a.length - ((a.cps.toList.drop (tl a).length).reverse.takeWhile figS.cps.contains).length = _
    have : a.cps.toList.drop (tl a).length = [] := List.drop_length
    rw [this]
    rfl
  unfold Txt.stripChars Txt.stripBy stripSame stripped
  rw [lo, hi]
  by_cases c : (tl a).length = 0
  · have e : a = ("" : Str) := ext_tl (by rw [List.eq_nil_of_length_eq_zero c]; decide +kernel)
    rw [if_pos (by rw [c]; simp)]
    exact e
  · have hne : ¬ (tl a).length = 0 := c
    rw [if_neg (by simp only [Bool.and_eq_true, beq_iff_eq, not_and]; intro z; exact absurd z hne)]
    refine ext_tl ?_
    rw [tl_strSub]
    have : a.length - (tl a).length = 0 := by rw [len_tl]; omega
    rw [this]
    simp
    decide +kernel
theorem at0 {s : Nat} {x : Str} {y : Str} (hy : tl y = [s]) : Txt.startswith x y = true → (tl x).head? = some s := by
  intro h
  unfold Txt.startswith at h
  simp only [Bool.and_eq_true, decide_eq_true_eq] at h
  have : At x y x.length 0 := ⟨by omega, h.2⟩
  have := (at_iff (by rw [hy]; simp) 0).mp this
  rw [hy] at this
  unfold pre at this
  cases e : tl x with
  | nil => rw [e] at this; simp at this
  | cons c r => rw [e] at this; simpa using this
theorem numL_head : ∀ {n : Nat}, 0 < n → (numL n).head? ≠ some 48 := by
  intro n
  induction n using Nat.strongRecOn with
  | _ n ih =>
    intro h0 h
    by_cases c : n < 10
    · rw [numL_lt c] at h
      simp at h
      omega
    · rw [numL_step (by omega)] at h
      have := ih (n / 10) (by omega) (by omega)
      cases e : numL (n / 10) with
      | nil => exact numL_ne _ e
      | cons x r => rw [e] at h this; exact this (by simpa using h)
theorem figB_num {i : Int} (h0 : 0 ≤ i) (h1 : i < big) : figB (strI i) = true := by
  have e := strI_of h0
  have l := numL_lenB (n := i.toNat) (by omega)
  have hl : (strI i).length = (numL i.toNat).length := by rw [len_tl, e]
  unfold figB
  simp only [Bool.and_eq_true, Bool.or_eq_true, decide_eq_true_eq, Bool.not_eq_true']
  refine ⟨⟨⟨by omega, by omega⟩, strip_all fun c hc => ?_⟩, ?_⟩
  · rw [e] at hc
    exact numL_digits _ c hc
  · by_cases c : i = 0
    · subst c
      exact .inl (by decide +kernel)
    · refine .inr ?_
      cases hs : Txt.startswith (strI i) ("0" : Str) with
      | false => rfl
      | true =>
        have := at0 (s := 48) (by decide +kernel) hs
        rw [e] at this
        exact absurd this (numL_head (by omega))
theorem int_strI {i : Int} (h0 : 0 ≤ i) (h1 : i < big) : PySem.intText? (strI i) = some i := by
  have l := numL_lenB (n := i.toNat) (by omega)
  have := int_num (n := i.toNat) (by omega)
  have e : ((i.toNat : Nat) : Int) = i := by omega
  rw [e] at this
  exact this
/-! the parts of a written entry -/
theorem tl_way (r : Bool) : tl (wayS r) = [if r then 114 else 108] := by cases r <;> decide +kernel
theorem find_none {x y : Str} (h : Txt.partition x y = (x, Str.empty, Str.empty)) (hy : y ≠ Str.empty) : Txt.find x y < 0 := by
  unfold Txt.partition at h
  unfold Txt.find
  split at h
  · exact absurd (congrArg (fun z => z.2.1) h) hy
  · rename_i e
    rw [e]
    decide
theorem find_some {x y a b : Str} (h : Txt.partition x y = (a, y, b)) (hy : y ≠ Str.empty) : ¬ Txt.find x y < 0 := by
  unfold Txt.partition at h
  unfold Txt.find
  split at h
  · rename_i i r e
    rw [e]
    show ¬ (i : Int) < 0
    omega
  · exact absurd (congrArg (fun z => z.2.1) h).symm hy
theorem partS_ent {w s : Int} {r : Bool} (hw : 0 ≤ w) (hs : 0 ≤ s) : partS (strI w ++ wayS r ++ strI s) = (strI w, wayS r, strI s) := by
  have ew := strI_of hw
  have es := strI_of hs
  unfold partS
  cases r
  · have e : Txt.partition (strI w ++ wayS false ++ strI s) ("l" : Str) = (strI w, ("l" : Str), strI s) := partition_app (y := ("l" : Str)) (s := 108) (S := []) (by decide +kernel) (by rw [ew]; exact numL_free (by decide))
    rw [if_neg (find_some e (by decide +kernel)), e]
    rfl
  · have hn : 108 ∉ tl (strI w ++ wayS true ++ strI s) := by
      rw [tl_append, tl_append, ew, es, tl_way]
      simp only [List.mem_append, not_or]
      exact ⟨⟨numL_free (by decide), by simp⟩, numL_free (by decide)⟩
    have e0 := partition_none (y := ("l" : Str)) (s := 108) (S := []) (by decide +kernel) hn
    rw [if_pos (find_none e0 (by decide +kernel))]
    exact partition_app (y := ("r" : Str)) (s := 114) (S := []) (by decide +kernel) (by rw [ew]; exact numL_free (by decide))
theorem ent_ne {w s : Int} {r : Bool} (hw : 0 ≤ w) : strI w ++ wayS r ++ strI s ≠ ("-" : Str) := by
  intro h
  have := congrArg tl h
  rw [tl_append, tl_append, strI_of hw] at this
  have e : tl ("-" : Str) = [45] := by decide +kernel
  rw [e] at this
  have hm : 45 ∉ numL w.toNat := numL_free (by decide)
  cases e2 : numL w.toNat with
  | nil => exact numL_ne _ e2
  | cons c rr =>
    rw [e2] at this hm
    simp at this hm
    exact hm.1 this.1.symm
theorem entB_ent {e : Ent} (h : EntF e) : entB (entS e) = true := by
  cases e with
  | none => decide +kernel
  | some x =>
    obtain ⟨w, r, s⟩ := x
    obtain ⟨⟨a1, a2⟩, a3, a4⟩ := h
    unfold entB entS
    rw [partS_ent a1 a3, figB_num a1 a2, figB_num a3 a4]
    cases r <;> simp <;> exact .inr (by decide +kernel)
/-! the rows -/
theorem free_ent {e : Ent} (h : EntF e) {c : Nat} (hc : c ≠ 45 ∧ c ≠ 108 ∧ c ≠ 114 ∧ (c < 48 ∨ 57 < c)) : c ∉ tl (entS e) := by
  cases e with
  | none =>
    have : tl (entS none) = [45] := by decide +kernel
    rw [this]
    simp
    exact hc.1
  | some x =>
    obtain ⟨w, r, s⟩ := x
    obtain ⟨⟨a1, a2⟩, a3, a4⟩ := h
    unfold entS
    rw [tl_append, tl_append, strI_of a1, strI_of a3, tl_way]
    simp only [List.mem_append, not_or]
    refine ⟨⟨numL_free hc.2.2.2, ?_⟩, numL_free hc.2.2.2⟩
    cases r
    · simpa using hc.2.1
    · simpa using hc.2.2.1
theorem mem_joinL {S : List Nat} {c : Nat} : ∀ {ps : List (List Nat)}, c ∈ joinL S ps → c ∈ S ∨ ∃ p ∈ ps, c ∈ p
  | [], h => nomatch h
  | [p], h => .inr ⟨p, by simp, h⟩
  | p :: q :: r, h => by
    have h : c ∈ p ++ (S ++ joinL S (q :: r)) := h
    rcases List.mem_append.mp h with h | h
    · exact .inr ⟨p, by simp, h⟩
    · rcases List.mem_append.mp h with h | h
      · exact .inl h
      · rcases mem_joinL h with h | ⟨x, hx, h⟩
        · exact .inl h
        · exact .inr ⟨x, List.mem_cons_of_mem _ hx, h⟩
theorem tl_joinT {y : Str} {parts : List Str} : tl (Txt.join y parts) = joinL (tl y) (parts.map tl) := by rw [join_eq, tl_join]
theorem free_row {r : List Ent} (h : ∀ e ∈ r, EntF e) : 10 ∉ tl (rowS r) := by
  intro hm
  unfold rowS at hm
  rw [tl_joinT] at hm
  rcases mem_joinL hm with h1 | ⟨p, hp, h1⟩
  · revert h1; decide +kernel
  · rw [List.map_map] at hp
    obtain ⟨e, he, rfl⟩ := List.mem_map.mp hp
    exact free_ent (h e he) (by decide) h1
theorem split_row {r : List Ent} (hr : r ≠ []) (h : ∀ e ∈ r, EntF e) : Txt.split (rowS r) (" " : Str) = r.map entS :=
  split_join (s := 32) (S := []) (by decide +kernel) (by decide +kernel) (by simpa using hr) fun p hp => by
    obtain ⟨e, he, rfl⟩ := List.mem_map.mp hp
    exact free_ent (h e he) (by decide)
theorem split_tab {t : Tab} (ht : TabF t) : Txt.split (tabS t) ("\n" : Str) = t.map rowS :=
  split_join (s := 10) (S := []) (by decide +kernel) (by decide +kernel) (by simpa using ht.ne) fun p hp => by
    obtain ⟨r, hr, rfl⟩ := List.mem_map.mp hp
    exact free_row (ht.row r hr).2
/-! how long -/
theorem entS_len {e : Ent} (h : EntF e) : (entS e).length ≤ 121 := by
  cases e with
  | none => decide +kernel
  | some x =>
    obtain ⟨w, r, s⟩ := x
    obtain ⟨⟨a1, a2⟩, a3, a4⟩ := h
    have l1 := numL_lenB (n := w.toNat) (by omega)
    have l2 := numL_lenB (n := s.toNat) (by omega)
    unfold entS
    rw [len_tl, tl_append, tl_append, strI_of a1, strI_of a3, tl_way]
    simp
    omega
theorem joinL_len {S : List Nat} : ∀ {ps : List (List Nat)}, (joinL S ps).length ≤ (ps.map (·.length)).sum + ps.length * S.length
  | [] => by simp [joinL]
  | [p] => by simp [joinL]
  | p :: q :: r => by
    have := joinL_len (S := S) (ps := q :: r)
    show (p ++ (S ++ joinL S (q :: r))).length ≤ _
    simp only [List.length_append, List.map_cons, List.sum_cons, List.length_cons] at this ⊢
    rw [Nat.add_mul, Nat.one_mul] at this ⊢
    rw [Nat.add_mul, Nat.one_mul]
    omega
theorem sum_le {α : Type} {f : α → Nat} {k : Nat} : ∀ {xs : List α}, (∀ x ∈ xs, f x ≤ k) → (xs.map f).sum ≤ xs.length * k
  | [], _ => by simp
  | x :: xs, h => by
    have h1 := h x (by simp)
    have := sum_le (f := f) (k := k) (xs := xs) fun y hy => h y (by simp [hy])
    simp only [List.map_cons, List.sum_cons, List.length_cons]
    rw [Nat.add_mul]
    omega
theorem rowS_len {r : List Ent} (h : ∀ e ∈ r, EntF e) : (rowS r).length ≤ r.length * 122 := by
  unfold rowS
  rw [len_tl, tl_joinT]
  have := joinL_len (S := tl (" " : Str)) (ps := (r.map entS).map tl)
  have e : (((r.map entS).map tl).map (·.length)).sum ≤ r.length * 121 := by
    rw [List.map_map, List.map_map]
    exact sum_le fun x hx => by
      have := entS_len (h x hx)
      rw [len_tl] at this
      exact this
  have e2 : (tl (" " : Str)).length = 1 := by decide +kernel
  rw [e2] at this
  simp only [List.length_map] at this
  omega
theorem tabS_len {t : Tab} {sg : Nat} (ht : TabF t) (hs : ∀ r ∈ t, r.length ≤ sg) : (tabS t).length ≤ t.length * (sg * 122 + 1) := by
  unfold tabS
  rw [len_tl, tl_joinT]
  have := joinL_len (S := tl ("\n" : Str)) (ps := (t.map rowS).map tl)
  have e : (((t.map rowS).map tl).map (·.length)).sum ≤ t.length * (sg * 122) := by
    rw [List.map_map, List.map_map]
    exact sum_le fun x hx => by
      have := rowS_len (ht.row x hx).2
      rw [len_tl] at this
      exact Nat.le_trans this (Nat.mul_le_mul_right _ (hs x hx))
  have e2 : (tl ("\n" : Str)).length = 1 := by decide +kernel
  rw [e2] at this
  simp only [List.length_map] at this
  rw [Nat.mul_add]
  omega
/-! ### promises -/
def partD (a : Str) : D := .tup [.str (partS a).1, .str (partS a).2.1, .str (partS a).2.2]
def W_written_entry (A : Cs) : DF := fun ds P => ∃ e : Ent, ds = [entD e] ∧ EntF e ∧ P.ok (.fz, .str (entS e)) ds
def W_written_machine (A : Cs) : DF := fun ds P => ∃ (t : Tab) (sg : Nat), ds = [machD A t] ∧ TabF t ∧ (t.length ≤ 20 ∧ sg ≤ 20) ∧ (∀ r ∈ t, r.length ≤ sg) ∧ P.ok (.fz, .str (tabS t)) ds
def W__law_text (A : Cs) : DF := fun ds P => ∃ (t : Tab) (sg : Nat), ds = [tabL t] ∧ TabF t ∧ (t.length ≤ 20 ∧ sg ≤ 20) ∧ (∀ r ∈ t, r.length ≤ sg) ∧ P.ok (.fz, .str (tabS t)) ds
def W_is_figures (A : Cs) : DF := fun ds P => ∃ a : Str, ds = [.str a] ∧ a.length ≤ 80000 ∧ P.ok (.fz, .bl (figB a)) ds
def W_parts_of (A : Cs) : DF := fun ds P => ∃ a : Str, ds = [.str a] ∧ a.length ≤ 80000 ∧ P.ok (.fz, partD a) ds
def W_is_entry (A : Cs) : DF := fun ds P => ∃ a : Str, ds = [.str a] ∧ a.length ≤ 80000 ∧ P.ok (.fz, .bl (entB a)) ds
def W_entry_from (A : Cs) : DF := fun ds P => ∃ e : Ent, ds = [.str (entS e)] ∧ EntF e ∧ P.ok (.fz, entD e) ds
end My

/-! exceptions with an own __init__ and a field: raise C(x); try: .. except C1 as e: y = (z, e.f) except C2: .. -/
namespace VLX
open PySem PySem.Spec PyProof.Rows L2
/-- the wishes of an exception behind the first handler -/
def wOne (K : PySem.W.Frag) (c2 : Value) (ts2 : Addr → Value → Option Addr → TS) (Wout : WX) (D : Ends) : WX := fun cls d σ H =>
  ∃ b, PySem.W.exmOne K cls c2 = some b ∧ (b = true → ∀ a, H a = none → ts2 a cls d D σ H) ∧ (b = false → Wout cls d σ H)
section
variable {X : Cx} {x1 x2 n : Str} {c1 c2 : Value} {i : Nat} {body su1 su2 : List Stmt} {b1 b2 : Stmt} {np1 np2 hp1 hp2 pos : Pos} {tb : WX → TS} {ts1 ts2 : Addr → Value → Option Addr → TS} {Wout : WX}
end
/-- y = (z, e.f), e in slot i: the exception a with the dict d -/
def tFld (i j : Nat) (z : Str) (f : Str) (a : Addr) (d : Option Addr) : TS := fun D σ H => σ[i]? = some (some (.ref a)) ∧ ∃ (dd : Addr) (fs : List (Str × V)) (v : V), d = some dd ∧ H dd = some (.xd fs) ∧ fs.lookup f = some v ∧ ∀ p, H p = none → D.nx (σ.set j (some (.ref p))) (upd H p (.tup [.str z, v]))
end VLX
namespace VL
open PySem PySem.Spec PyProof.Rows L2
/-! an own __init__ that stores one field -/
def spNT (C : Addr) (f : Str) : Sp := fun vs H Q _ => ∃ (a : Addr) (y : V), vs = [.ref a, y] ∧ H a = some (exo a C none) ∧ ∀ dx, H dx = none → dx ≠ a → Q .non (upd (upd H dx (exd dx [(f, y)])) a (exo a C (some dx)))
section
variable {P : Program} {w : World} {mg : Str → Option Value} {base : Heap} {K : PySem.W.Frag}
theorem fn_okNT {x qual : Str} {st : Stmt} {fa C : Addr} {fd : FuncData} {s l : Str} {f : Str} (F : Fun K x qual st fa fd) (sc : FnScope [s, l] [s, l] (defScope st)) (T : OexC K C) (hno : PySem.W.findIn K (.ref C) f = some none)
    (body : ∀ (cdv : Value) (A : Around) (outer : List Env) (s' : Shared) (H : Hp) (E : XK), PSs (cxOf (L2.CX P w) P w K mg base [s, l] qual (defScope st) fa cdv A outer s' H E) (defBody st) (tOst K f (tVar 0) (tVar 1))) :
    FnOk P w K mg base (L2.CX P w) 1 fa fd [s, l] (spNT C f) := by
  refine F.okX sc (fun vs H Q E h => ?_) (fun cdv A outer s' H vs Q E hr h => ⟨_, body cdv A outer s' H E, ?_⟩)
  · obtain ⟨a, y, rfl, _⟩ := h
    rfl
  · obtain ⟨a, y, rfl, hH, h⟩ := h
    exact ⟨y, rfl, .ref a, rfl, a, C, rfl, T, hno, .inl ⟨hH, fun dx n ne => h dx n ne⟩⟩
end
section
variable {K : PySem.W.Frag} {W : WX} {G G' H H' H0 : Hp} {σ : L2.St} {ρ : Rho} {f f' : Own} {pin : Nat → Option V} {X : Cx} {S S0 S1 S2 T T1 T2 U : Sta} {E : En} {Z : Ends}
/-- raise C(x), C's __init__ storing x under n -/
def wRaiseF (C : Addr) (n : Str) (we : DE (Kd × D)) : DS := fun E ρ => we ρ ⟨fun _ x ρ' => x.1 = .fz ∧ E.ex C [(n, x.2)] ρ', E.ex⟩
@[simp ↓] theorem wRaiseF_eq {C : Addr} {n : Str} {we : DE (Kd × D)} : wRaiseF C n we E ρ = we ρ ⟨fun _ x ρ' => x.1 = .fz ∧ E.ex C [(n, x.2)] ρ', E.ex⟩ := rfl
theorem ts_raiseF {C : Addr} {n : Str} {we : DE (Kd × D)} (h : ts K W (wRaiseF C n we) Z σ H) : tMkO C (spNT C n) [] (tCons (te K W we) tNil) σ H (fun cls d H' => W cls d σ H') := by
  obtain ⟨S, E, rfl, rfl, ok, w, l⟩ := h
  show te K W we S.σ S.H fun x H1 => _
  refine ⟨S, _, rfl, rfl, ok, w, fun p x T e es okT t tc v hv => ?_, fun C' fl T e es okT t dd hd => es ▸ l.ex C' fl T e okT t dd hd⟩
  obtain ⟨kd, d⟩ := x
  obtain ⟨rfl, e⟩ := e
  have hv : Dt K T.G v d := hv
  refine ⟨by show 1 ≤ 1000; decide, fun a ha => ⟨a, v, rfl, upd_same, fun dx hdx ne => ⟨rfl, dx, [(n, v)], upd_same, ?_, ?_, ?_⟩⟩⟩
  · rw [upd_ne ne, upd_same]
  · rw [upd_ne ne] at hdx
    exact hdx
  · rw [upd_ne ne] at hdx
    have g : Grow T.G T.H (upd T.G dx (.xd [(n, v)])) (upd T.H dx (.xd [(n, v)])) := Grow.new okT.ext hdx
    have eG : Ex T.G (upd T.G dx (.xd [(n, v)])) := fun b o hb => by
      have nb : b ≠ dx := fun z => by rw [z, okT.ext.free hdx] at hb; cases hb
      rw [upd_ne nb]; exact hb
    have eH : upd (del (upd (upd (upd T.H a (exo a C none)) dx (exd dx [(n, v)])) a (exo a C (some dx))) a) dx (.xd [(n, v)]) = upd T.H dx (.xd [(n, v)]) := by
      funext b
      by_cases c : b = dx
      · rw [c, upd_same, upd_same]
      · rw [upd_ne c, upd_ne c]
        by_cases c2 : b = a
        · rw [c2, del_same, ha]
        · rw [del_ne c2, upd_ne c2, upd_ne c, upd_ne c2]
    rw [eH, ← es]
    exact l.ex C [(n, d)] (T.at (upd T.G dx (.xd [(n, v)])) (upd T.H dx (.xd [(n, v)]))) e (Sta.grow okT g) (t.trans g.to) (some dx) (.inr ⟨dx, [(n, v)], by simp, rfl, upd_same, .cons (hv.mono eG) .nil⟩)
theorem q_raiseF {C fI : Addr} {x n : Str} {fd : FuncData} {ps : List Str} {e : Expr} {we : DE (Kd × D)} {p pos pos' : Pos} (h : OexC X.K C) (iC : PySem.W.findIn X.K (.ref C) "__init__" = some (some (.ref fI))) (tI : PySem.W.typeIn X.K (.ref fI) = some (.type "function")) (F : FnOk X.prog X.w X.K X.mg X.base (L2.CX X.prog X.w) 1 fI fd ps (spNT C n)) (hr : Room 2 X.A) (hb : Binds X.K fd ps [])
    (hm : X.mg x = some (.ref C)) (hc : X.calm = true) (tk : Takes X W) (he : PE X e (te X.K W we)) (hg : Gl X x := by rfl) (hdb : (x == ("__debug__" : Str)) = false := by decide) (hs : starEach [e] X.env = (false, eval e X.env) :: starEach [] X.env := by rfl) (hpl : (backTo pos (starEach [] X.env)).any (·.1) = false := by rfl) :
    PS X (.Raise (some (.Call (.Name x p) [e] [] pos)) none pos') (ts X.K W (wRaiseF C n we)) :=
  PS.imp (ps_raise hc tk (pmk_oex h iC tI F hr hb .nil (L2.passes_call (E := fun _ _ _ => False) tk fun _ _ _ _ z => z.elim) hg hm (pa_cons he pa_nil hs) hdb hs hpl)) fun _ _ _ h => ts_raiseF h
/-- try: b / except C1 as e: y = (z, e.f) / except C2: su -/
def wTryF (C1 C2 : Addr) (i j : Nat) (z f : Str) (b su : DS) : DS := fun E ρ => b { E with ex := fun C fl ρ' => (C = C1 ∧ ρ'[i]? = some none ∧ okSlot ρ' j = true ∧ ∃ d, fl = [(f, d)] ∧ E.nx (ρ'.set j (some (.F, .tup [.str z, d])))) ∨ (C = C2 ∧ fl = [] ∧ su { E with ex := fun _ _ _ => False } ρ') } ρ
@[simp ↓] theorem wTryF_eq {C1 C2 : Addr} {i j : Nat} {z f : Str} {b su : DS} : wTryF C1 C2 i j z f b su E ρ = b { E with ex := fun C fl ρ' => (C = C1 ∧ ρ'[i]? = some none ∧ okSlot ρ' j = true ∧ ∃ d, fl = [(f, d)] ∧ E.nx (ρ'.set j (some (.F, .tup [.str z, d])))) ∨ (C = C2 ∧ fl = [] ∧ su { E with ex := fun _ _ _ => False } ρ') } ρ := rfl
end
end VL

namespace My
open PySem PySem.Spec PyProof.Rows L2 VL
open TL PySem.StrLaws
def W_read_machine (A : Cs) : DF := fun ds P => ∃ (t : Tab) (st sg : Nat), ds = [.str (tabS t)] ∧ TabOk t st sg ∧ (st ≤ 20 ∧ sg ≤ 20) ∧ P.ok (.new (.O [.F]), machD A t) ds
/-- None, ints, texts, lists and tuples of such -/
def shN : Nat → D → Bool
  | _, .non => true
  | _, .int _ => true
  | _, .str _ => true
  | n + 1, .lst xs => decide (xs.length ≤ 90000) && xs.all (shN n)
  | n + 1, .tup xs => decide (xs.length ≤ 90000) && xs.all (shN n)
  | _, _ => false
def W__law_sameN (A : Cs) : Nat → DF
  | 0 => fun _ _ => False
  | n + 1 => fun ds P => ∃ x : D, ds = [x, x] ∧ shN n x = true ∧ P.ok (.fz, .bl true) ds
theorem sameN_i {A : Cs} {n : Nat} {x : D} {P : Pf} (h : shN n x = true) (hp : P.ok (.fz, .bl true) [x, x]) : W__law_sameN A (n + 1) [x, x] P := ⟨x, rfl, h, hp⟩
end My

/-! text * int -/
namespace VL
open PySem PySem.Spec PyProof.Rows L2
open TL
/-- a text so many times -/
def repS (a : Str) (n : Nat) : Str := ⟨((List.replicate n (tl a)).flatten).toArray⟩
theorem tl_rep (a : Str) (n : Nat) : tl (repS a n) = (List.replicate n (tl a)).flatten := rfl
theorem rep_cps (a : Str) : ∀ (n : Nat) (acc : Array Nat), (((List.replicate n a.cps).foldl (· ++ ·) acc).toList) = acc.toList ++ (List.replicate n (tl a)).flatten
  | 0, acc => by simp
  | n + 1, acc => by
    rw [List.replicate_succ, List.foldl_cons, rep_cps a n, List.replicate_succ, List.flatten_cons, Array.toList_append, List.append_assoc]
theorem repS_eq (a : Str) (n : Nat) : (⟨(List.replicate n a.cps).foldl (· ++ ·) #[]⟩ : Str) = repS a n := ext_tl (by
  show ((List.replicate n a.cps).foldl (· ++ ·) #[]).toList = _
  rw [rep_cps, tl_rep]
  rfl)
theorem repS_one (a : Str) : repS a 1 = a := ext_tl (by rw [tl_rep]; simp)
def rMulS : V → V → Hp → VK → Prop := fun x y H Q => ∃ (a : Str) (n : Int), x = .str a ∧ y = .int n ∧ (1 ≤ n ∧ n ≤ 1000) ∧ (1 ≤ a.length ∧ a.length ≤ 100) ∧ Q (.str (repS a n.toNat)) H
theorem op_mulS {X : Cx} : OpR X (binaryOp .Mult) rMulS := by
  intro pins s σ H x y v u Q I rx ry h
  obtain ⟨a, n, rfl, rfl, ⟨h1, h2⟩, ⟨h3, h4⟩, q⟩ := h
  obtain ⟨t, rfl⟩ := rx
  obtain ⟨t', rfl⟩ := ry
  have hz : (a.length * n.toNat) ≤ sizeLine := by
    rw [sizeLine_eq]
    have : a.length * n.toNat ≤ 100 * 1000 := Nat.mul_le_mul h4 (by omega)
    omega
  refine P.mul_str (by rw [decide_eq_false (by omega), decide_eq_false (by omega)]; rfl) (fun _ _ hgt => ?_) (fun _ _ => decide_eq_false (by omega)) ?_
  · have hd : (1 : Int) * 1000 ≤ 2 ^ 63 - 1 := by decide
    have h5 : ((2 ^ 63 - 1 : Int)) / n ≥ (2 ^ 63 - 1) / 1000 := by
      refine Int.le_ediv_of_mul_le (by omega) ?_
      have h6 : ((2 ^ 63 - 1 : Int)) / 1000 * n ≤ (2 ^ 63 - 1) / 1000 * 1000 := Int.mul_le_mul_of_nonneg_left h2 (by decide)
      have h7 : ((2 ^ 63 - 1 : Int)) / 1000 * 1000 ≤ 2 ^ 63 - 1 := by decide
      omega
    have h8 : ((2 ^ 63 - 1 : Int)) / 1000 ≥ 100 := by decide
    omega
  · rw [if_neg (by omega)]
    by_cases c : n = 1
    · subst c
      rw [if_pos (by simp)]
      have : repS a (1 : Int).toNat = a := repS_one a
      rw [this] at q
      exact ⟨.str a, H, I, ⟨_, rfl⟩, q⟩
    · have hc : (n == 1 || a.length == 0) = false := by
        rw [Bool.or_eq_false_iff]
        exact ⟨by simpa using c, by simp; omega⟩
      rw [if_neg (by rw [hc]; simp), repS_eq]
      have hl : (repS a n.toNat).length ≤ sizeLine := by
        rw [len_tl, tl_rep, List.length_flatten, List.map_replicate, List.sum_replicate_nat, ← len_tl, Nat.mul_comm]
        exact hz
      first
        | exact ⟨hl, .str _, H, I.tok _, ⟨_, rfl⟩, q⟩
        | exact ⟨.str _, H, I.tok _, ⟨_, rfl⟩, q⟩
section
variable {K : PySem.W.Frag} {G G' H H' H0 : Hp} {X : Cx} {S S0 S1 T : Sta}
def oMulS : O2 := fun x y q => match x.2, y.2 with
  | .str a, .int n => (1 ≤ n ∧ n ≤ 1000) ∧ (1 ≤ a.length ∧ a.length ≤ 100) ∧ q (.fz, .str (repS a n.toNat))
  | _, _ => False
@[simp ↓] theorem oMulS_eq {k k' : Kd} {a : Str} {n : Int} {q : Kd × D → Prop} : oMulS (k, .str a) (k', .int n) q = ((1 ≤ n ∧ n ≤ 1000) ∧ (1 ≤ a.length ∧ a.length ≤ 100) ∧ q (.fz, .str (repS a n.toNat))) := rfl
theorem ok_MulS : OkR2 K rMulS oMulS := fun S0 S x y dx dy Q q ok hx hy h k => by
  obtain ⟨kx, dx⟩ := dx
  obtain ⟨ky, dy⟩ := dy
  unfold oMulS at h
  split at h
  · rename_i a n e1 e2
    cases e1; cases e2
    exact ⟨a, n, hx.str_inv ok, hy.int_inv ok, h.1, h.2.1, stay ok k h.2.2 (v := .str _) (.str _)⟩
  · exact h.elim
end
end VL

namespace My
open PySem PySem.Spec PyProof.Rows L2 VL
def w_written_entry (A : Cs) : DS :=
  wSeq (wIfS (wT (wOp oIsN (wVar 0) (wC .non))) (wRet (wC (.str "-"))) (wNext)) <|
  wSeq (wAsg (wVar 0) (wgTup 3 (wgCons (wgN 1) (wgCons (wgN 2) (wgCons (wgN 3) (wgNil)))))) <|
  wRet (wJs [wFmt (wVar 1), wFmt (wVar 2), wFmt (wVar 3)] Str.empty)

def w_written_machine (A : Cs) : DS :=
  wRet (wJoin "\n" (wLc (wIt (wFld A.C_Machine "table" 0 (wVar 0))) (wgN 1) (wYes) (wJoin " " (wLc (wIt (wVar 1)) (wgN 2) (wYes) (wCall [.F] (W_written_entry A) [] (wCons (wVar 2) (wNil))) [2] [])) [1] [2]))

def w_is_figures (A : Cs) : DS :=
  wSeq (wIfS (wOr (wNot (wT (wChain (oB0 fun i j => decide (i ≤ j)) (oB0 fun i j => decide (i ≤ j)) (wC (.int 1)) (wCB oLen (wCons (wVar 0) (wNil))) (wC (.int 60))))) (wT (wOp oNe (wSM oStrip (wVar 0) (wC (.str "0123456789"))) (wC (.str ""))))) (wRet (wC (.bl false))) (wNext)) <|
  wRet (wOrV (wOp oEq (wVar 0) (wC (.str "0"))) (wNotV (wSM oStarts (wVar 0) (wC (.str "0")))))

def w_parts_of (A : Cs) : DS :=
  wSeq (wIfS (wT (wOp (oB0 fun i j => decide (i < j)) (wSM oFind (wVar 0) (wC (.str "l"))) (wC (.int 0)))) (wRet (wSM oPart (wVar 0) (wC (.str "r")))) (wNext)) <|
  wRet (wSM oPart (wVar 0) (wC (.str "l")))

def w_is_entry (A : Cs) : DS :=
  wSeq (wIfS (wT (wOp oEq (wVar 0) (wC (.str "-")))) (wRet (wC (.bl true))) (wNext)) <|
  wSeq (wAsg (wCall [.F] (W_parts_of A) [] (wCons (wVar 0) (wNil))) (wgTup 3 (wgCons (wgN 1) (wgCons (wgN 2) (wgCons (wgN 3) (wgNil)))))) <|
  wRet (wAndV (wOp oNe (wVar 2) (wC (.str ""))) (wAndV (wCall [.F] (W_is_figures A) [] (wCons (wVar 1) (wNil))) (wCall [.F] (W_is_figures A) [] (wCons (wVar 3) (wNil)))))

def w_entry_from (A : Cs) : DS :=
  wSeq (wIfS (wT (wOp oEq (wVar 0) (wC (.str "-")))) (wRet (wC .non)) (wNext)) <|
  wSeq (wAsg (wCall [.F] (W_parts_of A) [] (wCons (wVar 0) (wNil))) (wgTup 3 (wgCons (wgN 1) (wgCons (wgN 2) (wgCons (wgN 3) (wgNil)))))) <|
  wRet (wTup (wCons (wCB oIntT (wCons (wVar 1) (wNil))) (wCons (wVar 2) (wCons (wCB oIntT (wCons (wVar 3) (wNil))) (wNil)))))

def w_read_machine (A : Cs) : DS :=
  wSeq (wSet 2 (wFz (wLc (wIt (wSM oSplit (wVar 0) (wC (.str "\n")))) (wgN 1) (wYes) (wSM oSplit (wVar 1) (wC (.str " "))) [1] []))) <|
  wSeq (wSet 3 (wLst (wNil))) <|
  wSeq (wFor (wEnum (wCons (wVar 2) (wNil))) (wgTup 2 (wgCons (wgN 4) (wgCons (wgN 5) (wgNil)))) (wSeq (wIfS (wOr (wT (wOp oNe (wCB oLen (wCons (wVar 5) (wNil))) (wCB oLen (wCons (wOp oIx (wVar 2) (wC (.int 0))) (wNil))))) (wNot (wT (wCB oAll (wCons (wLc (wIt (wVar 5)) (wgN 6) (wYes) (wCall [.F] (W_is_entry A) [] (wCons (wVar 6) (wNil))) [6] []) (wNil)))))) (wNever) (wNext)) <|
  wDrop (wMut mApp (wVar 3) (wCons (wLc (wIt (wVar 5)) (wgN 6) (wYes) (wCall [.F] (W_entry_from A) [] (wCons (wVar 6) (wNil))) [6] []) (wNil))))) <|
  wRet (wMake A.C_Machine 1 [.F] (W_Machine_init A) [] (wCons (wFrz 3) (wNil)))

def w__law_text (A : Cs) : DS :=
  wSeq (wSet 1 (wLst (wNil))) <|
  wSeq (wFor (wIt (wVar 0)) (wgN 2) (wSeq (wSet 4 (wFz (wLc (wIt (wVar 2)) (wgN 3) (wYes) (wIf (wT (wOp oIsN (wVar 3) (wC .non))) (wC (.str "-")) (wOp oAdd (wOp oAdd (wCB oStr (wCons (wOp oIx (wVar 3) (wC (.int 0))) (wNil))) (wOp oIx (wVar 3) (wC (.int 1)))) (wCB oStr (wCons (wOp oIx (wVar 3) (wC (.int 2))) (wNil))))) [3] []))) <|
  wDrop (wMut mApp (wVar 1) (wCons (wJoin " " (wVar 4)) (wNil))))) <|
  wRet (wJoin "\n" (wVar 1))

def w__law_sameN (A : Cs) (n : Nat) : DS :=
  wSeq (wIfS (wT (wOp oIsN (wVar 1) (wC .non))) (wRet (wOp oIsN (wVar 0) (wC .non))) (wNext)) <|
  wSeq (wIfS (wT (wIsi "dict" (wVar 1))) (wNever) (wNext)) <|
  wSeq (wIfS (wOr (wT (wIsi "list" (wVar 1))) (wT (wIsi "tuple" (wVar 1)))) (wSeq (wIfS (wAnd (wT (wIsi "list" (wVar 1))) (wNot (wT (wIsi "list" (wVar 0))))) (wRet (wC (.bl false))) (wNext)) <|
  wSeq (wIfS (wOr (wAnd (wT (wIsi "tuple" (wVar 1))) (wNot (wT (wIsi "tuple" (wVar 0))))) (wT (wOp oNe (wCB oLen (wCons (wVar 0) (wNil))) (wCB oLen (wCons (wVar 1) (wNil)))))) (wRet (wC (.bl false))) (wNext)) <|
  wRet (wCB oAll (wCons (wLc (wZip (wCons (wVar 0) (wCons (wVar 1) (wNil)))) (wgTup 2 (wgCons (wgN 3) (wgCons (wgN 4) (wgNil)))) (wYes) (wCall [.F, .F] (W__law_sameN A n) [] (wCons (wVar 3) (wCons (wVar 4) (wNil)))) [3, 4] []) (wNil)))) (wNext)) <|
  wSeq (wIfS (wT (wIsi "str" (wVar 1))) (wRet (wAndV (wIsi "str" (wVar 0)) (wOp oEq (wVar 0) (wVar 1)))) (wNext)) <|
  wRet (wAndV (wIsi "int" (wVar 0)) (wAndV (wNotV (wIsi "bool" (wVar 0))) (wOp oEq (wVar 0) (wVar 1))))

end My

namespace My
open PySem PySem.Spec PyProof.Rows L2 VL
def w_is_number (A : Cs) : DS :=
  wRet (wAndV (wIsi "int" (wVar 0)) (wAndV (wNotV (wIsi "bool" (wVar 0))) (wChain (oB0 fun i j => decide (i ≤ j)) (oB0 fun i j => decide (i < j)) (wC (.int 0)) (wVar 0) (wVar 1))))

def w_entry_kept (A : Cs) : DS :=
  wSeq (wIfS (wT (wOp oIsN (wVar 0) (wC .non))) (wRet (wC .non)) (wNext)) <|
  wSeq (wIfS (wOr (wNot (wT (wIsi "tuple" (wVar 0)))) (wT (wOp oNe (wCB oLen (wCons (wVar 0) (wNil))) (wC (.int 3))))) (wNever) (wNext)) <|
  wSeq (wAsg (wVar 0) (wgTup 3 (wgCons (wgN 3) (wgCons (wgN 4) (wgCons (wgN 5) (wgNil)))))) <|
  wSeq (wIfS (wOr (wNot (wT (wCall [.F, .F] (W_is_number A) [] (wCons (wVar 3) (wCons (wVar 2) (wNil)))))) (wOr (wT (wOp oNotIn (wVar 4) (wTup (wCons (wC (.str "l")) (wCons (wC (.str "r")) (wNil)))))) (wNot (wT (wCall [.F, .F] (W_is_number A) [] (wCons (wVar 5) (wCons (wVar 1) (wNil)))))))) (wNever) (wNext)) <|
  wRet (wTup (wCons (wVar 3) (wCons (wVar 4) (wCons (wVar 5) (wNil)))))

def w_Machine_init (A : Cs) : DS :=
  wSeq (wIfS (wOr (wT (wOp oEq (wCB oLen (wCons (wVar 1) (wNil))) (wC (.int 0)))) (wT (wOp oEq (wCB oLen (wCons (wOp oIx (wVar 1) (wC (.int 0))) (wNil))) (wC (.int 0))))) (wNever) (wNext)) <|
  wSeq (wSet 2 (wFz (wCB oLen (wCons (wVar 1) (wNil))))) <|
  wSeq (wSet 3 (wFz (wCB oLen (wCons (wOp oIx (wVar 1) (wC (.int 0))) (wNil))))) <|
  wSeq (wSet 4 (wLst (wNil))) <|
  wSeq (wFor (wIt (wVar 1)) (wgN 5) (wSeq (wIfS (wT (wOp oNe (wCB oLen (wCons (wVar 5) (wNil))) (wVar 3))) (wNever) (wNext)) <|
  wDrop (wMut mApp (wVar 4) (wCons (wCB oTuple (wCons (wLc (wIt (wVar 5)) (wgN 6) (wYes) (wCall [.F, .F, .F] (W_entry_kept A) [] (wCons (wVar 6) (wCons (wVar 2) (wCons (wVar 3) (wNil))))) [6] []) (wNil))) (wNil))))) <|
  wPutF 0 A.C_Machine "table" 0 (wFz (wCB oTuple (wCons (wVar 4) (wNil))))

def w_states_of (A : Cs) : DS :=
  wRet (wCB oLen (wCons (wFld A.C_Machine "table" 0 (wVar 0)) (wNil)))

def w_signs_of (A : Cs) : DS :=
  wRet (wCB oLen (wCons (wOp oIx (wFld A.C_Machine "table" 0 (wVar 0)) (wC (.int 0))) (wNil)))

def w_ask_shot (A : Cs) : DS :=
  wSeq (wAsg (wVar 1) (wgTup 3 (wgCons (wgN 2) (wgCons (wgN 3) (wgCons (wgN 4) (wgNil)))))) <|
  wSeq (wIfS (wNot (wT (wCall [.F, .F] (W_is_number A) [] (wCons (wVar 2) (wCons (wCall [.F] (W_states_of A) [] (wCons (wVar 0) (wNil))) (wNil)))))) (wRaise A.C_NoShot) (wNext)) <|
  wSeq (wSet 5 (wFz (wC .non))) <|
  wFor (wIt (wVar 4)) (wgTup 2 (wgCons (wgN 6) (wgCons (wgN 7) (wgNil)))) (wSeq (wIfS (wOr (wNot (wT (wCall [.F, .F] (W_is_number A) [] (wCons (wVar 7) (wCons (wCall [.F] (W_signs_of A) [] (wCons (wVar 0) (wNil))) (wNil)))))) (wT (wOp oEq (wVar 7) (wC (.int 0))))) (wRaise A.C_NoShot) (wNext)) <|
  wSeq (wIfS (wAnd (wT (wOp oNotN (wVar 5) (wC .non))) (wT (wOp (oB0 fun i j => decide (i ≤ j)) (wVar 6) (wVar 5)))) (wRaise A.C_NoShot) (wNext)) <|
  wSet 5 (wFz (wVar 6)))

def w_Run_init (A : Cs) : DS :=
  wSeq (wPutF 0 A.C_Run "table" 0 (wFz (wFld A.C_Machine "table" 0 (wVar 1)))) <|
  wSeq (wPutF 0 A.C_Run "state" 1 (wFz (wOp oIx (wVar 2) (wC (.int 0))))) <|
  wSeq (wPutF 0 A.C_Run "place" 2 (wFz (wOp oIx (wVar 2) (wC (.int 1))))) <|
  wSeq (wPutF 0 A.C_Run "cells" 3 (wDic)) <|
  wFor (wIt (wOp oIx (wVar 2) (wC (.int 2)))) (wgTup 2 (wgCons (wgN 3) (wgCons (wgN 4) (wgNil)))) (wSub (wVar 4) (wFld A.C_Run "cells" 3 (wVar 0)) (wVar 3))

def w_Run_step (A : Cs) : DS :=
  wSeq (wSet 1 (wFz (wOp oIx (wOp oIx (wFld A.C_Run "table" 0 (wVar 0)) (wFld A.C_Run "state" 1 (wVar 0))) (wGet (wFld A.C_Run "cells" 3 (wVar 0)) (wCons (wFld A.C_Run "place" 2 (wVar 0)) (wCons (wC (.int 0)) (wNil))))))) <|
  wSeq (wIfS (wT (wOp oIsN (wVar 1) (wC .non))) (wRet (wC (.bl false))) (wNext)) <|
  wSeq (wIfS (wT (wOp oEq (wOp oIx (wVar 1) (wC (.int 0))) (wC (.int 0)))) (wDrop (wPopD (wFld A.C_Run "cells" 3 (wVar 0)) (wCons (wFld A.C_Run "place" 2 (wVar 0)) (wCons (wC (.int 0)) (wNil))))) (wSub (wOp oIx (wVar 1) (wC (.int 0))) (wFld A.C_Run "cells" 3 (wVar 0)) (wFld A.C_Run "place" 2 (wVar 0)))) <|
  wSeq (wIfS (wT (wOp oEq (wOp oIx (wVar 1) (wC (.int 1))) (wC (.str "r")))) (wPutF 0 A.C_Run "place" 2 (wFz (wOp oAdd (wFld A.C_Run "place" 2 (wVar 0)) (wC (.int 1))))) (wPutF 0 A.C_Run "place" 2 (wFz (wOp (oI0 fun i j => i - j) (wFld A.C_Run "place" 2 (wVar 0)) (wC (.int 1)))))) <|
  wSeq (wPutF 0 A.C_Run "state" 1 (wFz (wOp oIx (wVar 1) (wC (.int 2))))) <|
  wRet (wC (.bl true))

def w_Run_shot (A : Cs) : DS :=
  wSeq (wSet 2 (wFz (wLc (wIt (wCB oSorted (wCons (wCB oList (wCons (wFld A.C_Run "cells" 3 (wVar 0)) (wNil))) (wNil)))) (wgN 1) (wYes) (wTup (wCons (wVar 1) (wCons (wOp oIx (wFld A.C_Run "cells" 3 (wVar 0)) (wVar 1)) (wNil)))) [1] []))) <|
  wRet (wTup (wCons (wFld A.C_Run "state" 1 (wVar 0)) (wCons (wFld A.C_Run "place" 2 (wVar 0)) (wCons (wCB oTuple (wCons (wVar 2) (wNil))) (wNil)))))

def w_ran (A : Cs) : DS :=
  wSeq (wSet 2 (wFz (wC (.int 0)))) <|
  wSeq (wWhile (wAnd (wT (wOp (oB0 fun i j => decide (i < j)) (wVar 2) (wVar 1))) (wT (wMeth A.C_Run "step" [.P (.O [.F, .F, .F, .K])] (W_Run_step A) [] (wVar 0) wNil))) (wAug 2 (oI0 fun i j => i + j) (wC (.int 1)))) <|
  wRet (wVar 2)

def w_after_from (A : Cs) : DS :=
  wSeq (wDrop (wCall [.F, .F] (W_ask_shot A) [] (wCons (wVar 0) (wCons (wVar 1) (wNil))))) <|
  wSeq (wSet 3 (wMake A.C_Run 2 [.F, .F, .F, .K] (W_Run_init A) [] (wCons (wVar 0) (wCons (wVar 1) (wNil))))) <|
  wSeq (wSet 4 (wFz (wCall [.P (.O [.F, .F, .F, .K]), .F] (W_ran A) [] (wCons (wVar 3) (wCons (wVar 2) (wNil)))))) <|
  wRet (wTup (wCons (wMeth A.C_Run "shot" [.P (.O [.F, .F, .F, .K])] (W_Run_shot A) [] (wVar 3) wNil) (wCons (wVar 4) (wNil))))

def w_after (A : Cs) : DS :=
  wRet (wCall [.F, .F, .F] (W_after_from A) [] (wCons (wVar 0) (wCons (wC (.tup [.int 0, .int 0, .tup []])) (wCons (wVar 1) (wNil)))))

def w_stops_at (A : Cs) : DS :=
  wSeq (wSet 2 (wMake A.C_Run 2 [.F, .F, .F, .K] (W_Run_init A) [] (wCons (wVar 0) (wCons (wC (.tup [.int 0, .int 0, .tup []])) (wNil))))) <|
  wSeq (wSet 3 (wFz (wCall [.P (.O [.F, .F, .F, .K]), .F] (W_ran A) [] (wCons (wVar 2) (wCons (wVar 1) (wNil)))))) <|
  wSeq (wIfS (wAnd (wT (wOp (oB0 fun i j => decide (j ≤ i)) (wVar 1) (wC (.int 0)))) (wT (wOp oIsN (wOp oIx (wOp oIx (wFld A.C_Machine "table" 0 (wVar 0)) (wFld A.C_Run "state" 1 (wVar 2))) (wGet (wFld A.C_Run "cells" 3 (wVar 2)) (wCons (wFld A.C_Run "place" 2 (wVar 2)) (wCons (wC (.int 0)) (wNil))))) (wC .non)))) (wRet (wVar 3)) (wNext)) <|
  wRet (wC .non)

end My

namespace My
open PySem PySem.Spec PyProof.Rows L2 VL
def w_is_round (A : Cs) : DS :=
  wSeq (wIfS (wOr (wNot (wT (wIsi "tuple" (wVar 0)))) (wOr (wT (wOp oNeX (wCB oLen (wCons (wVar 0) (wNil))) (wC (.int 3)))) (wT (wOp oNeX (wOp oIx (wVar 0) (wC (.int 0))) (wVar 1))))) (wRet (wC (.bl false))) (wNext)) <|
  wSeq (wFor (wIt (wSl (wVar 0) (wSo (wC (.int 1))) (wNo))) (wgN 2) (wIfS (wOr (wNot (wT (wIsi "int" (wVar 2)))) (wT (wIsi "bool" (wVar 2)))) (wRet (wC (.bl false))) (wNext))) <|
  wRet (wChain (oB0 fun i j => decide (i ≤ j)) (oB0 fun i j => decide (i < j)) (wC (.int 0)) (wOp oIx (wVar 0) (wC (.int 1))) (wOp oIx (wVar 0) (wC (.int 2))))

def w_takes_same (A : Cs) : DS :=
  wSeq (wIfS (wNot (wT (wCall [.F, .F] (W_is_round A) [] (wCons (wVar 1) (wCons (wC (.str "same")) (wNil)))))) (wRet (wC (.bl false))) (wNext)) <|
  wSeq (wAsg (wVar 1) (wgTup 3 (wgCons (wgN 2) (wgCons (wgN 3) (wgCons (wgN 4) (wgNil)))))) <|
  wSeq (wSet 5 (wMake A.C_Run 2 [.F, .F, .F, .K] (W_Run_init A) [] (wCons (wVar 0) (wCons (wC (.tup [.int 0, .int 0, .tup []])) (wNil))))) <|
  wSeq (wIfS (wT (wOp (oB0 fun i j => decide (i < j)) (wCall [.P (.O [.F, .F, .F, .K]), .F] (W_ran A) [] (wCons (wVar 5) (wCons (wVar 3) (wNil)))) (wVar 3))) (wRet (wC (.bl false))) (wNext)) <|
  wSeq (wSet 6 (wFz (wMeth A.C_Run "shot" [.P (.O [.F, .F, .F, .K])] (W_Run_shot A) [] (wVar 5) wNil))) <|
  wRet (wAndV (wOp oEqX (wCall [.P (.O [.F, .F, .F, .K]), .F] (W_ran A) [] (wCons (wVar 5) (wCons (wOp (oI0 fun i j => i - j) (wVar 4) (wVar 3)) (wNil)))) (wOp (oI0 fun i j => i - j) (wVar 4) (wVar 3))) (wOp oEqX (wMeth A.C_Run "shot" [.P (.O [.F, .F, .F, .K])] (W_Run_shot A) [] (wVar 5) wNil) (wVar 6)))

def w__law_next (A : Cs) : DS :=
  wSeq (wSub (wOp oAdd (wOp oIx (wVar 1) (wC (.int 0))) (wC (.int 1))) (wVar 1) (wC (.int 0))) <|
  wSeq (wSet 2 (wFz (wIf (wT (wOp (oB0 fun i j => decide (j < i)) (wCB oLen (wCons (wVar 0) (wNil))) (wC (.int 0)))) (wOp oIx (wVar 0) (wOp (oI (fun _ j => 0 < j) fun i j => i % j) (wOp oIx (wVar 1) (wC (.int 0))) (wCB oLen (wCons (wVar 0) (wNil))))) (wC (.int 0))))) <|
  wSeq (wSet 3 (wFz (wOp (oI (fun _ j => 0 < j) fun i j => i % j) (wOp oMul (wOp oAdd (wOp oAdd (wOp (oI (fun _ j => 0 < j) fun i j => i % j) (wVar 2) (wC (.int 2147483647))) (wOp oMul (wOp oMul (wOp oIx (wVar 1) (wC (.int 0))) (wOp oIx (wVar 1) (wC (.int 0)))) (wC (.int 7919)))) (wC (.int 11))) (wC (.int 48271))) (wC (.int 2147483647))))) <|
  wRet (wOp (oI (fun _ j => 0 < j) fun i j => i % j) (wOp oMul (wVar 3) (wVar 3)) (wC (.int 1999999973)))

def w__law_table (A : Cs) : DS :=
  wSeq (wSet 4 (wEmp (.L .F))) <|
  wSeq (wFor (wRng1 (wCons (wVar 2) (wNil))) (wgN 5) (wSeq (wSet 6 (wLst (wNil))) <|
  wSeq (wFor (wRng1 (wCons (wVar 3) (wNil))) (wgN 7) (wSeq (wSet 8 (wFz (wCall [.F, .P (.L .F)] (W__law_next A) [] (wCons (wVar 0) (wCons (wVar 1) (wNil)))))) <|
  wSeq (wSet 9 (wFz (wTup (wCons (wOp (oI (fun _ j => 0 < j) fun i j => i % j) (wOp (oI CDiv fun i j => i / j) (wVar 8) (wC (.int 9))) (wVar 3)) (wCons (wOp oIx (wC (.str "lr")) (wOp (oI (fun _ j => 0 < j) fun i j => i % j) (wOp (oI CDiv fun i j => i / j) (wVar 8) (wC (.int 100))) (wC (.int 2)))) (wCons (wOp (oI (fun _ j => 0 < j) fun i j => i % j) (wOp (oI CDiv fun i j => i / j) (wVar 8) (wC (.int 300))) (wVar 2)) (wNil))))))) <|
  wSeq (wIfS (wT (wOp oEq (wOp (oI (fun _ j => 0 < j) fun i j => i % j) (wVar 8) (wC (.int 9))) (wC (.int 0)))) (wSet 9 (wFz (wC .non))) (wNext)) <|
  wDrop (wMut mApp (wVar 6) (wCons (wVar 9) (wNil))))) <|
  wDrop (wApp (wVar 4) (wMov 6)))) <|
  wRet (wMov 4)

def w__law_step (A : Cs) : DS :=
  wSeq (wAsg (wVar 1) (wgTup 3 (wgCons (wgN 2) (wgCons (wgN 3) (wgCons (wgN 4) (wgNil)))))) <|
  wSeq (wSet 5 (wFz (wOp oIx (wOp oIx (wVar 0) (wVar 2)) (wGet (wVar 4) (wCons (wVar 3) (wCons (wC (.int 0)) (wNil))))))) <|
  wSeq (wIfS (wT (wOp oIsN (wVar 5) (wC .non))) (wRet (wC .non)) (wNext)) <|
  wSeq (wSet 6 (wCB oDict (wCons (wVar 4) (wNil)))) <|
  wSeq (wSub (wOp oIx (wVar 5) (wC (.int 0))) (wVar 6) (wVar 3)) <|
  wSeq (wIfS (wT (wOp oEq (wOp oIx (wVar 5) (wC (.int 0))) (wC (.int 0)))) (wDrop (wPopD (wVar 6) (wCons (wVar 3) (wNil)))) (wNext)) <|
  wSeq (wIfS (wT (wOp oEq (wOp oIx (wVar 5) (wC (.int 1))) (wC (.str "r")))) (wRet (wTup (wCons (wOp oIx (wVar 5) (wC (.int 2))) (wCons (wOp oAdd (wVar 3) (wC (.int 1))) (wCons (wFrz 6) (wNil)))))) (wNext)) <|
  wRet (wTup (wCons (wOp oIx (wVar 5) (wC (.int 2))) (wCons (wOp (oI0 fun i j => i - j) (wVar 3) (wC (.int 1))) (wCons (wFrz 6) (wNil)))))

def w__law_run (A : Cs) : DS :=
  wSeq (wSet 3 (wLst (wCons (wVar 1) (wNil)))) <|
  wSeq (wWhile (wT (wOp (oB0 fun i j => decide (i ≤ j)) (wCB oLen (wCons (wVar 3) (wNil))) (wVar 2))) (wSeq (wSet 1 (wFz (wCall [.F, .F] (W__law_step A) [] (wCons (wVar 0) (wCons (wVar 1) (wNil)))))) <|
  wSeq (wIfS (wT (wOp oIsN (wVar 1) (wC .non))) (wRet (wMov 3)) (wNext)) <|
  wDrop (wMut mApp (wVar 3) (wCons (wVar 1) (wNil))))) <|
  wRet (wMov 3)

def w__law_shot (A : Cs) : DS :=
  wSeq (wAsg (wVar 0) (wgTup 3 (wgCons (wgN 1) (wgCons (wgN 2) (wgCons (wgN 3) (wgNil)))))) <|
  wRet (wTup (wCons (wVar 1) (wCons (wVar 2) (wCons (wCB oTuple (wCons (wLc (wIt (wCB oSorted (wCons (wCB oList (wCons (wVar 3) (wNil))) (wNil)))) (wgN 4) (wYes) (wTup (wCons (wVar 4) (wCons (wOp oIx (wVar 3) (wVar 4)) (wNil)))) [4] []) (wNil))) (wNil)))))

def w__law_machine_by (A : Cs) : DS :=
  wSeq (wSet 2 (wFz (wCall [.F, .P (.L .F)] (W__law_next A) [] (wCons (wVar 0) (wCons (wVar 1) (wNil)))))) <|
  wSeq (wSet 3 (wFz (wOp oIx (wLst (wCons (wC (.int 1)) (wCons (wC (.int 2)) (wCons (wC (.int 2)) (wCons (wC (.int 3)) (wCons (wC (.int 3)) (wCons (wC (.int 4)) (wNil)))))))) (wOp (oI (fun _ j => 0 < j) fun i j => i % j) (wVar 2) (wC (.int 6)))))) <|
  wSeq (wSet 4 (wFz (wOp oIx (wLst (wCons (wC (.int 2)) (wCons (wC (.int 2)) (wCons (wC (.int 3)) (wCons (wC (.int 2)) (wCons (wC (.int 4)) (wCons (wC (.int 1)) (wNil)))))))) (wOp (oI (fun _ j => 0 < j) fun i j => i % j) (wOp (oI CDiv fun i j => i / j) (wVar 2) (wC (.int 6))) (wC (.int 6)))))) <|
  wSeq (wIfS (wT (wOp oEq (wOp (oI (fun _ j => 0 < j) fun i j => i % j) (wOp (oI CDiv fun i j => i / j) (wVar 2) (wC (.int 36))) (wC (.int 13))) (wC (.int 0)))) (wAsg (wTup (wCons (wC (.int 5)) (wCons (wC (.int 8)) (wNil)))) (wgTup 2 (wgCons (wgN 3) (wgCons (wgN 4) (wgNil))))) (wNext)) <|
  wSeq (wSet 5 (wCall [.F, .P (.L .F), .F, .F] (W__law_table A) [] (wCons (wVar 0) (wCons (wVar 1) (wCons (wVar 3) (wCons (wVar 4) (wNil))))))) <|
  wSeq (wFor (wRng1 (wCons (wVar 3) (wNil))) (wgN 6) (wFor (wRng1 (wCons (wVar 4) (wNil))) (wgN 7) (wSeq (wSet 2 (wFz (wCall [.F, .P (.L .F)] (W__law_next A) [] (wCons (wVar 0) (wCons (wVar 1) (wNil)))))) <|
  wSeq (wIfS (wAnd (wT (wOp oEq (wOp (oI (fun _ j => 0 < j) fun i j => i % j) (wVar 2) (wC (.int 3))) (wC (.int 0)))) (wT (wOp oNotN (wOp oIx (wOp oIx (wVar 5) (wVar 6)) (wVar 7)) (wC .non)))) (wSub (wTup (wCons (wOp oIx (wOp oIx (wOp oIx (wVar 5) (wVar 6)) (wVar 7)) (wC (.int 0))) (wCons (wOp oIx (wOp oIx (wOp oIx (wVar 5) (wVar 6)) (wVar 7)) (wC (.int 1))) (wCons (wVar 6) (wNil))))) (wOp oIx (wVar 5) (wVar 6)) (wVar 7)) (wNext)) <|
  wIfS (wAnd (wT (wOp (oB0 fun i j => decide (j < i)) (wOp (oI (fun _ j => 0 < j) fun i j => i % j) (wOp (oI CDiv fun i j => i / j) (wVar 2) (wC (.int 3))) (wC (.int 7))) (wC (.int 1)))) (wT (wOp oIsN (wOp oIx (wOp oIx (wVar 5) (wVar 6)) (wVar 7)) (wC .non)))) (wSub (wTup (wCons (wOp (oI (fun _ j => 0 < j) fun i j => i % j) (wOp (oI CDiv fun i j => i / j) (wVar 2) (wC (.int 30))) (wVar 4)) (wCons (wOp oIx (wC (.str "lr")) (wOp (oI (fun _ j => 0 < j) fun i j => i % j) (wOp (oI CDiv fun i j => i / j) (wVar 2) (wC (.int 300))) (wC (.int 2)))) (wCons (wOp (oI (fun _ j => 0 < j) fun i j => i % j) (wOp (oI CDiv fun i j => i / j) (wVar 2) (wC (.int 600))) (wVar 3)) (wNil))))) (wOp oIx (wVar 5) (wVar 6)) (wVar 7)) (wNext)))) <|
  wRet (wMov 5)

end My

namespace My
open PySem PySem.Spec PyProof.Rows L2 VL
def w_cells_from (A : Cs) : DS :=
  wSeq (wAsg (wVar 0) (wgTup 3 (wgCons (wgN 3) (wgCons (wgN 4) (wgCons (wgN 5) (wgNil)))))) <|
  wRet (wLc (wIt (wVar 5)) (wgTup 2 (wgCons (wgN 6) (wgCons (wgN 7) (wgNil)))) (wT (wOp (oB0 fun i j => decide (j ≤ i)) (wOp oMul (wOp (oI0 fun i j => i - j) (wOp (oI0 fun i j => i - j) (wVar 6) (wVar 4)) (wVar 1)) (wVar 2)) (wC (.int 0)))) (wTup (wCons (wOp (oI0 fun i j => i - j) (wVar 6) (wVar 4)) (wCons (wVar 7) (wNil)))) [6, 7] [])

def w_is_shifted (A : Cs) : DS :=
  wSeq (wIfS (wOr (wT (wOp oNeX (wOp oIx (wVar 0) (wC (.int 0))) (wOp oIx (wVar 1) (wC (.int 0))))) (wT (wOp oEqX (wOp oIx (wVar 0) (wC (.int 1))) (wOp oIx (wVar 1) (wC (.int 1)))))) (wRet (wC (.bl false))) (wNext)) <|
  wSeq (wIfS (wT (wOp (oB0 fun i j => decide (i < j)) (wOp oIx (wVar 0) (wC (.int 1))) (wOp oIx (wVar 1) (wC (.int 1))))) (wRet (wOp oEqX (wCall [.F, .F, .F] (W_cells_from A) [] (wCons (wVar 0) (wCons (wUn oNeg (wVar 2)) (wCons (wC (.int 1)) (wNil))))) (wCall [.F, .F, .F] (W_cells_from A) [] (wCons (wVar 1) (wCons (wUn oNeg (wVar 2)) (wCons (wC (.int 1)) (wNil))))))) (wNext)) <|
  wRet (wOp oEqX (wCall [.F, .F, .F] (W_cells_from A) [] (wCons (wVar 0) (wCons (wVar 3) (wCons (wUn oNeg (wC (.int 1))) (wNil))))) (wCall [.F, .F, .F] (W_cells_from A) [] (wCons (wVar 1) (wCons (wVar 3) (wCons (wUn oNeg (wC (.int 1))) (wNil))))))

def w_takes_shifted (A : Cs) : DS :=
  wSeq (wIfS (wNot (wT (wCall [.F, .F] (W_is_round A) [] (wCons (wVar 1) (wCons (wC (.str "shifted")) (wNil)))))) (wRet (wC (.bl false))) (wNext)) <|
  wSeq (wAsg (wVar 1) (wgTup 3 (wgCons (wgN 2) (wgCons (wgN 3) (wgCons (wgN 4) (wgNil)))))) <|
  wSeq (wSet 5 (wMake A.C_Run 2 [.F, .F, .F, .K] (W_Run_init A) [] (wCons (wVar 0) (wCons (wC (.tup [.int 0, .int 0, .tup []])) (wNil))))) <|
  wSeq (wIfS (wT (wOp (oB0 fun i j => decide (i < j)) (wCall [.P (.O [.F, .F, .F, .K]), .F] (W_ran A) [] (wCons (wVar 5) (wCons (wVar 3) (wNil)))) (wVar 3))) (wRet (wC (.bl false))) (wNext)) <|
  wSeq (wSet 6 (wFz (wMeth A.C_Run "shot" [.P (.O [.F, .F, .F, .K])] (W_Run_shot A) [] (wVar 5) wNil))) <|
  wSeq (wSet 7 (wFz (wC (.int 0)))) <|
  wSeq (wSet 8 (wFz (wC (.int 0)))) <|
  wSeq (wFor (wRng1 (wCons (wOp (oI0 fun i j => i - j) (wVar 4) (wVar 3)) (wNil))) (wgN 9) (wSeq (wIfS (wNot (wT (wMeth A.C_Run "step" [.P (.O [.F, .F, .F, .K])] (W_Run_step A) [] (wVar 5) wNil))) (wRet (wC (.bl false))) (wNext)) <|
  wSeq (wSet 7 (wFz (wCB oMax2 (wCons (wVar 7) (wCons (wOp (oI0 fun i j => i - j) (wOp oIx (wVar 6) (wC (.int 1))) (wFld A.C_Run "place" 2 (wVar 5))) (wNil)))))) <|
  wSet 8 (wFz (wCB oMax2 (wCons (wVar 8) (wCons (wOp (oI0 fun i j => i - j) (wFld A.C_Run "place" 2 (wVar 5)) (wOp oIx (wVar 6) (wC (.int 1)))) (wNil))))))) <|
  wRet (wCall [.F, .F, .F, .F] (W_is_shifted A) [] (wCons (wVar 6) (wCons (wMeth A.C_Run "shot" [.P (.O [.F, .F, .F, .K])] (W_Run_shot A) [] (wVar 5) wNil) (wCons (wVar 7) (wCons (wVar 8) (wNil))))))

end My

namespace My
open PySem PySem.Spec PyProof.Rows L2 VL
def w_trail (A : Cs) : DS :=
  wSeq (wSet 2 (wMake A.C_Run 2 [.F, .F, .F, .K] (W_Run_init A) [] (wCons (wVar 0) (wCons (wC (.tup [.int 0, .int 0, .tup []])) (wNil))))) <|
  wSeq (wSet 3 (wLst (wCons (wMeth A.C_Run "shot" [.P (.O [.F, .F, .F, .K])] (W_Run_shot A) [] (wVar 2) wNil) (wNil)))) <|
  wSeq (wSet 4 (wFz (wC (.int 0)))) <|
  wSeq (wWhile (wAnd (wT (wOp (oB0 fun i j => decide (i < j)) (wVar 4) (wVar 1))) (wT (wMeth A.C_Run "step" [.P (.O [.F, .F, .F, .K])] (W_Run_step A) [] (wVar 2) wNil))) (wSeq (wDrop (wMut mApp (wVar 3) (wCons (wMeth A.C_Run "shot" [.P (.O [.F, .F, .F, .K])] (W_Run_shot A) [] (wVar 2) wNil) (wNil)))) <|
  wAug 4 (oI0 fun i j => i + j) (wC (.int 1)))) <|
  wRet (wMov 3)

def w_same_of (A : Cs) : DS :=
  wSeq (wSet 2 (wDicN)) <|
  wSeq (wFor (wEnum (wCons (wCall [.F, .F] (W_trail A) [] (wCons (wVar 0) (wCons (wVar 1) (wNil)))) (wNil))) (wgTup 2 (wgCons (wgN 3) (wgCons (wgN 4) (wgNil)))) (wSeq (wIfS (wT (wOp oInX (wVar 4) (wVar 2))) (wRet (wTup (wCons (wC (.str "same")) (wCons (wOp oIxX (wVar 2) (wVar 4)) (wCons (wVar 3) (wNil)))))) (wNext)) <|
  wSubN (wVar 3) (wVar 2) (wVar 4))) <|
  wRet (wC .non)

def w_first_shifted (A : Cs) : DS :=
  wSeq (wSet 2 (wFz (wC .non))) <|
  wSeq (wSet 3 (wFz (wOp oIx (wOp oIx (wVar 0) (wVar 1)) (wC (.int 1))))) <|
  wSeq (wSet 4 (wFz (wVar 3))) <|
  wSeq (wFor (wRevRng (wVar 1)) (wgN 5) (wSeq (wSet 6 (wFz (wOp oIx (wOp oIx (wVar 0) (wVar 5)) (wC (.int 1))))) <|
  wSeq (wSet 3 (wFz (wCB oMin2 (wCons (wVar 3) (wCons (wVar 6) (wNil)))))) <|
  wSeq (wSet 4 (wFz (wCB oMax2 (wCons (wVar 4) (wCons (wVar 6) (wNil)))))) <|
  wIfS (wT (wCall [.F, .F, .F, .F] (W_is_shifted A) [] (wCons (wOp oIx (wVar 0) (wVar 5)) (wCons (wOp oIx (wVar 0) (wVar 1)) (wCons (wOp (oI0 fun i j => i - j) (wVar 6) (wVar 3)) (wCons (wOp (oI0 fun i j => i - j) (wVar 4) (wVar 6)) (wNil))))))) (wSet 2 (wFz (wVar 5))) (wNext))) <|
  wRet (wVar 2)

def w_shifted_of (A : Cs) : DS :=
  wSeq (wSet 2 (wFz (wCall [.F, .F] (W_trail A) [] (wCons (wVar 0) (wCons (wVar 1) (wNil)))))) <|
  wSeq (wFor (wRng2 (wCons (wC (.int 1)) (wCons (wCB oLen (wCons (wVar 2) (wNil))) (wNil)))) (wgN 3) (wSeq (wSet 4 (wFz (wCall [.F, .F] (W_first_shifted A) [] (wCons (wVar 2) (wCons (wVar 3) (wNil)))))) <|
  wIfS (wT (wOp oNotN (wVar 4) (wC .non))) (wRet (wTup (wCons (wC (.str "shifted")) (wCons (wVar 4) (wCons (wVar 3) (wNil)))))) (wNext))) <|
  wRet (wC .non)

def w__law_same (A : Cs) (n : Nat) : DS :=
  wSeq (wIfS (wOr (wT (wIsi "list" (wVar 1))) (wT (wIsi "tuple" (wVar 1)))) (wSeq (wIfS (wOr (wT (wOp oNe (wIsi "list" (wVar 0)) (wIsi "list" (wVar 1)))) (wT (wOp oNe (wIsi "tuple" (wVar 0)) (wIsi "tuple" (wVar 1))))) (wRet (wC (.bl false))) (wNext)) <|
  wRet (wAndV (wOp oEq (wCB oLen (wCons (wVar 0) (wNil))) (wCB oLen (wCons (wVar 1) (wNil)))) (wCB oAll (wCons (wLc (wZip (wCons (wVar 0) (wCons (wVar 1) (wNil)))) (wgTup 2 (wgCons (wgN 2) (wgCons (wgN 3) (wgNil)))) (wYes) (wCall [.F, .F] (W__law_same A n) [] (wCons (wVar 2) (wCons (wVar 3) (wNil)))) [2, 3] []) (wNil))))) (wNext)) <|
  wSeq (wIfS (wT (wOp oIsN (wVar 1) (wC .non))) (wRet (wOp oIsN (wVar 0) (wC .non))) (wNext)) <|
  wSeq (wIfS (wT (wIsi "str" (wVar 1))) (wRet (wAndV (wIsi "str" (wVar 0)) (wOp oEq (wVar 0) (wVar 1)))) (wNext)) <|
  wRet (wAndV (wIsi "int" (wVar 0)) (wAndV (wNotV (wIsi "bool" (wVar 0))) (wOp oEq (wVar 0) (wVar 1))))

end My

namespace My
open PySem PySem.Spec PyProof.Rows L2 VL
def w_is_gram (A : Cs) : DS :=
  wSeq (wIfS (wOr (wNot (wT (wIsi "tuple" (wVar 0)))) (wT (wOp oNe (wCB oLen (wCons (wVar 0) (wNil))) (wVar 1)))) (wRet (wC (.bl false))) (wNext)) <|
  wRet (wCB oAll (wCons (wLc (wIt (wVar 0)) (wgN 3) (wYes) (wCall [.F, .F] (W_is_number A) [] (wCons (wVar 3) (wCons (wVar 2) (wNil)))) [3] []) (wNil)))

def w_is_context (A : Cs) : DS :=
  wSeq (wIfS (wOr (wNot (wT (wIsi "tuple" (wVar 1)))) (wT (wOp oNe (wCB oLen (wCons (wVar 1) (wNil))) (wC (.int 4))))) (wRet (wC (.bl false))) (wNext)) <|
  wSeq (wAsg (wVar 1) (wgTup 4 (wgCons (wgN 3) (wgCons (wgN 4) (wgCons (wgN 5) (wgCons (wgN 6) (wgNil))))))) <|
  wSeq (wSet 7 (wFz (wCall [.F] (W_signs_of A) [] (wCons (wVar 0) (wNil))))) <|
  wSeq (wIfS (wOr (wNot (wT (wCall [.F, .F] (W_is_number A) [] (wCons (wVar 4) (wCons (wCall [.F] (W_states_of A) [] (wCons (wVar 0) (wNil))) (wNil)))))) (wNot (wT (wCall [.F, .F] (W_is_number A) [] (wCons (wVar 5) (wCons (wVar 7) (wNil))))))) (wRet (wC (.bl false))) (wNext)) <|
  wRet (wAndV (wCall [.F, .F, .F] (W_is_gram A) [] (wCons (wVar 3) (wCons (wVar 2) (wCons (wVar 7) (wNil))))) (wCall [.F, .F, .F] (W_is_gram A) [] (wCons (wVar 6) (wCons (wVar 2) (wCons (wVar 7) (wNil))))))

def w_is_row (A : Cs) : DS :=
  wRet (wOrV (wIsi "list" (wVar 0)) (wIsi "tuple" (wVar 0)))

def w_wall_formed (A : Cs) : DS :=
  wSeq (wIfS (wOr (wNot (wT (wIsi "tuple" (wVar 1)))) (wOr (wT (wOp oNeX (wCB oLen (wCons (wVar 1) (wNil))) (wC (.int 5)))) (wT (wOp oNeX (wOp oIx (wVar 1) (wC (.int 0))) (wC (.str "wall")))))) (wRet (wC (.bl false))) (wNext)) <|
  wSeq (wAsg (wVar 1) (wgTup 5 (wgCons (wgN 2) (wgCons (wgN 3) (wgCons (wgN 4) (wgCons (wgN 5) (wgCons (wgN 6) (wgNil)))))))) <|
  wSeq (wIfS (wOr (wNot (wT (wIsi "int" (wVar 3)))) (wOr (wT (wIsi "bool" (wVar 3))) (wT (wOp (oB0 fun i j => decide (i < j)) (wVar 3) (wC (.int 1)))))) (wRet (wC (.bl false))) (wNext)) <|
  wSeq (wIfS (wOr (wNot (wT (wCall [.F] (W_is_row A) [] (wCons (wVar 4) (wNil))))) (wOr (wNot (wT (wCall [.F] (W_is_row A) [] (wCons (wVar 5) (wNil))))) (wNot (wT (wCall [.F] (W_is_row A) [] (wCons (wVar 6) (wNil))))))) (wRet (wC (.bl false))) (wNext)) <|
  wSeq (wSet 7 (wFz (wCall [.F] (W_signs_of A) [] (wCons (wVar 0) (wNil))))) <|
  wSeq (wIfS (wNot (wT (wCB oAll (wCons (wLc (wIt (wOp oAdd (wCB oList (wCons (wVar 4) (wNil))) (wCB oList (wCons (wVar 5) (wNil))))) (wgN 8) (wYes) (wCall [.F, .F, .F] (W_is_gram A) [] (wCons (wVar 8) (wCons (wVar 3) (wCons (wVar 7) (wNil))))) [8] []) (wNil))))) (wRet (wC (.bl false))) (wNext)) <|
  wRet (wCB oAll (wCons (wLc (wIt (wVar 6)) (wgN 9) (wYes) (wCall [.F, .F, .F] (W_is_context A) [] (wCons (wVar 0) (wCons (wVar 9) (wCons (wVar 3) (wNil))))) [9] []) (wNil)))

def w_names_of (A : Cs) : DS :=
  wSeq (wSet 1 (wDicN)) <|
  wSeq (wFor (wIt (wVar 0)) (wgN 2) (wSubN (wC (.bl true)) (wVar 1) (wVar 2))) <|
  wRet (wMov 1)

def w_contexts_behind (A : Cs) : DS :=
  wSeq (wAsg (wVar 1) (wgTup 4 (wgCons (wgN 4) (wgCons (wgN 5) (wgCons (wgN 6) (wgCons (wgN 7) (wgNil))))))) <|
  wSeq (wAsg (wOp oIx (wOp oIx (wFld A.C_Machine "table" 0 (wVar 0)) (wVar 5)) (wVar 6)) (wgTup 3 (wgCons (wgN 8) (wgCons (wgN 9) (wgCons (wgN 10) (wgNil)))))) <|
  wSeq (wIfS (wT (wOp oEqX (wVar 9) (wC (.str "r")))) (wSeq (wSet 11 (wFz (wOp oAdd (wTup (wCons (wVar 8) (wNil))) (wSl (wVar 4) (wNo) (wSo (wUn oNeg (wC (.int 1)))))))) <|
  wRet (wLc (wItN (wVar 3)) (wgN 12) (wT (wOp oEqX (wSl (wVar 12) (wNo) (wSo (wUn oNeg (wC (.int 1))))) (wSl (wVar 7) (wSo (wC (.int 1))) (wNo)))) (wTup (wCons (wVar 11) (wCons (wVar 10) (wCons (wOp oIx (wVar 7) (wC (.int 0))) (wCons (wVar 12) (wNil)))))) [12] [])) (wNext)) <|
  wSeq (wSet 11 (wFz (wOp oAdd (wTup (wCons (wVar 8) (wNil))) (wSl (wVar 7) (wNo) (wSo (wUn oNeg (wC (.int 1)))))))) <|
  wRet (wLc (wItN (wVar 2)) (wgN 12) (wT (wOp oEqX (wSl (wVar 12) (wNo) (wSo (wUn oNeg (wC (.int 1))))) (wSl (wVar 4) (wSo (wC (.int 1))) (wNo)))) (wTup (wCons (wVar 12) (wCons (wVar 10) (wCons (wOp oIx (wVar 4) (wC (.int 0))) (wCons (wVar 11) (wNil)))))) [12] [])

def w_entry_at (A : Cs) : DS :=
  wRet (wOp oIx (wOp oIx (wFld A.C_Machine "table" 0 (wVar 0)) (wOp oIx (wVar 1) (wC (.int 1)))) (wOp oIx (wVar 1) (wC (.int 2))))

def w_closed_under (A : Cs) : DS :=
  wSeq (wFor (wItN (wVar 3)) (wgN 4) (wSeq (wSet 5 (wFz (wCall [.F, .F] (W_entry_at A) [] (wCons (wVar 0) (wCons (wVar 4) (wNil)))))) <|
  wSeq (wIfS (wT (wOp oIsN (wVar 5) (wC .non))) (wRet (wC (.bl false))) (wNext)) <|
  wSeq (wIfS (wOr (wAnd (wT (wOp oEq (wOp oIx (wVar 5) (wC (.int 1))) (wC (.str "r")))) (wT (wOp oNotInX (wOp oIx (wVar 4) (wC (.int 0))) (wVar 1)))) (wAnd (wT (wOp oEq (wOp oIx (wVar 5) (wC (.int 1))) (wC (.str "l")))) (wT (wOp oNotInX (wOp oIx (wVar 4) (wC (.int 3))) (wVar 2))))) (wRet (wC (.bl false))) (wNext)) <|
  wFor (wIt (wCall [.F, .F, .F, .F] (W_contexts_behind A) [] (wCons (wVar 0) (wCons (wVar 4) (wCons (wVar 1) (wCons (wVar 2) (wNil))))))) (wgN 6) (wIfS (wT (wOp oNotInX (wVar 6) (wVar 3))) (wRet (wC (.bl false))) (wNext)))) <|
  wRet (wC (.bl true))

def w_wall_taken (A : Cs) : DS :=
  wSeq (wIfS (wOr (wNot (wT (wCall [.F, .F] (W_wall_formed A) [] (wCons (wVar 0) (wCons (wVar 1) (wNil)))))) (wT (wOp oEq (wCB oLen (wCons (wOp oIx (wVar 1) (wC (.int 2))) (wNil))) (wC (.int 0))))) (wRet (wC (.bl false))) (wNext)) <|
  wSeq (wSet 2 (wFz (wOp oMulX (wTup (wCons (wC (.int 0)) (wNil))) (wOp oIx (wVar 1) (wC (.int 1)))))) <|
  wSeq (wSet 3 (wFz (wCall [.F] (W_names_of A) [] (wCons (wOp oIx (wVar 1) (wC (.int 2))) (wNil))))) <|
  wSeq (wSet 4 (wFz (wCall [.F] (W_names_of A) [] (wCons (wOp oIx (wVar 1) (wC (.int 3))) (wNil))))) <|
  wSeq (wSet 5 (wFz (wCall [.F] (W_names_of A) [] (wCons (wOp oIx (wVar 1) (wC (.int 4))) (wNil))))) <|
  wSeq (wIfS (wOr (wT (wOp oNotInX (wVar 2) (wVar 3))) (wOr (wT (wOp oNotInX (wVar 2) (wVar 4))) (wT (wOp oNotInX (wTup (wCons (wVar 2) (wCons (wC (.int 0)) (wCons (wC (.int 0)) (wCons (wVar 2) (wNil)))))) (wVar 5))))) (wRet (wC (.bl false))) (wNext)) <|
  wRet (wCall [.F, .F, .F, .F] (W_closed_under A) [] (wCons (wVar 0) (wCons (wVar 3) (wCons (wVar 4) (wCons (wVar 5) (wNil))))))

def w_grown_once (A : Cs) : DS :=
  wSeq (wSet 4 (wFz (wOp oAdd (wOp oAdd (wCB oLenX (wCons (wVar 1) (wNil))) (wCB oLenX (wCons (wVar 2) (wNil)))) (wCB oLenX (wCons (wVar 3) (wNil)))))) <|
  wSeq (wFor (wIt (wCB oListX (wCons (wVar 3) (wNil)))) (wgN 5) (wSeq (wSet 6 (wFz (wCall [.F, .F] (W_entry_at A) [] (wCons (wVar 0) (wCons (wVar 5) (wNil)))))) <|
  wSeq (wIfS (wT (wOp oIsN (wVar 6) (wC .non))) (wRet (wC .non)) (wNext)) <|
  wSeq (wIfS (wT (wOp oEq (wOp oIx (wVar 6) (wC (.int 1))) (wC (.str "r")))) (wSubN (wC (.bl true)) (wVar 1) (wOp oIx (wVar 5) (wC (.int 0)))) (wSubN (wC (.bl true)) (wVar 2) (wOp oIx (wVar 5) (wC (.int 3))))) <|
  wFor (wIt (wLendD 2 (wLendD 1 (wCall [.F, .F, .F, .F] (W_contexts_behind A) [] (wCons (wVar 0) (wCons (wVar 5) (wCons (wVar 1) (wCons (wVar 2) (wNil))))))))) (wgN 7) (wSubN (wC (.bl true)) (wVar 3) (wVar 7)))) <|
  wRet (wOp (oI0 fun i j => i - j) (wOp oAdd (wOp oAdd (wCB oLenX (wCons (wVar 1) (wNil))) (wCB oLenX (wCons (wVar 2) (wNil)))) (wCB oLenX (wCons (wVar 3) (wNil)))) (wVar 4))

def w_wall_of (A : Cs) : DS :=
  wSeq (wIfS (wT (wOp (oB0 fun i j => decide (i < j)) (wVar 1) (wC (.int 1)))) (wNever) (wNext)) <|
  wSeq (wSet 3 (wFz (wOp oMulX (wTup (wCons (wC (.int 0)) (wNil))) (wVar 1)))) <|
  wSeq (wSet 4 (wDispN (wVar 3) (wC (.bl true)))) <|
  wSeq (wSet 5 (wDispN (wVar 3) (wC (.bl true)))) <|
  wSeq (wSet 6 (wDispN (wTup (wCons (wVar 3) (wCons (wC (.int 0)) (wCons (wC (.int 0)) (wCons (wVar 3) (wNil)))))) (wC (.bl true)))) <|
  wSeq (wSet 7 (wFz (wC (.int 1)))) <|
  wSeq (wWhile (wT (wOp (oB0 fun i j => decide (j < i)) (wVar 7) (wC (.int 0)))) (wSeq (wIfS (wT (wOp (oB0 fun i j => decide (j < i)) (wCB oLenX (wCons (wVar 6) (wNil))) (wVar 2))) (wRet (wC .non)) (wNext)) <|
  wSeq (wSet 7 (wFz (wCall [.F, .P (.N), .P (.N), .P (.N)] (W_grown_once A) [] (wCons (wVar 0) (wCons (wVar 4) (wCons (wVar 5) (wCons (wVar 6) (wNil)))))))) <|
  wIfS (wT (wOp oIsN (wVar 7) (wC .non))) (wRet (wC .non)) (wNext))) <|
  wRet (wTup (wCons (wC (.str "wall")) (wCons (wVar 1) (wCons (wCB oSortedX (wCons (wCB oListX (wCons (wVar 4) (wNil))) (wNil))) (wCons (wCB oSortedX (wCons (wCB oListX (wCons (wVar 5) (wNil))) (wNil))) (wCons (wCB oSortedX (wCons (wCB oListX (wCons (wVar 6) (wNil))) (wNil))) (wNil)))))))

def w_first_wall (A : Cs) : DS :=
  wSeq (wFor (wRng2 (wCons (wC (.int 1)) (wCons (wOp oAdd (wVar 1) (wC (.int 1))) (wNil)))) (wgN 2) (wSeq (wSet 3 (wFz (wCall [.F, .F, .F] (W_wall_of A) [] (wCons (wVar 0) (wCons (wVar 2) (wCons (wC (.int 200)) (wNil))))))) <|
  wIfS (wT (wOp oNotN (wVar 3) (wC .non))) (wRet (wVar 3)) (wNext))) <|
  wRet (wC .non)


end My

namespace My
open PySem PySem.Spec PyProof.Rows L2 VL
def w_shown (A : Cs) : DS :=
  wSeq (wSet 3 (wFz (wCall [.F, .F] (W_stops_at A) [] (wCons (wVar 0) (wCons (wVar 1) (wNil)))))) <|
  wSeq (wIfS (wT (wOp oNotN (wVar 3) (wC .non))) (wRet (wTup (wCons (wC (.str "stops")) (wCons (wVar 3) (wNil))))) (wNext)) <|
  wSeq (wSet 4 (wFz (wCall [.F, .F] (W_same_of A) [] (wCons (wVar 0) (wCons (wVar 1) (wNil)))))) <|
  wSeq (wIfS (wT (wOp oIsN (wVar 4) (wC .non))) (wSet 4 (wFz (wCall [.F, .F] (W_shifted_of A) [] (wCons (wVar 0) (wCons (wVar 1) (wNil)))))) (wNext)) <|
  wSeq (wIfS (wT (wOp oIsN (wVar 4) (wC .non))) (wSet 4 (wFz (wCall [.F, .F] (W_first_wall A) [] (wCons (wVar 0) (wCons (wVar 2) (wNil)))))) (wNext)) <|
  wSeq (wIfS (wT (wOp oIsN (wVar 4) (wC .non))) (wRet (wTup (wCons (wC (.str "open")) (wCons (wC .non) (wNil))))) (wNext)) <|
  wRet (wTup (wCons (wC (.str "never")) (wCons (wVar 4) (wNil))))

def w_takes (A : Cs) : DS :=
  wSeq (wIfS (wOr (wNot (wT (wIsi "tuple" (wVar 1)))) (wT (wOp oEq (wCB oLen (wCons (wVar 1) (wNil))) (wC (.int 0))))) (wRet (wC (.bl false))) (wNext)) <|
  wSeq (wIfS (wT (wOp oEq (wOp oIx (wVar 1) (wC (.int 0))) (wC (.str "same")))) (wRet (wCall [.F, .F] (W_takes_same A) [] (wCons (wVar 0) (wCons (wVar 1) (wNil))))) (wNext)) <|
  wSeq (wIfS (wT (wOp oEq (wOp oIx (wVar 1) (wC (.int 0))) (wC (.str "shifted")))) (wRet (wCall [.F, .F] (W_takes_shifted A) [] (wCons (wVar 0) (wCons (wVar 1) (wNil))))) (wNext)) <|
  wSeq (wIfS (wT (wOp oEq (wOp oIx (wVar 1) (wC (.int 0))) (wC (.str "grow")))) (wNever) (wNext)) <|
  wSeq (wIfS (wT (wOp oEq (wOp oIx (wVar 1) (wC (.int 0))) (wC (.str "wall")))) (wRet (wCall [.F, .F] (W_wall_taken A) [] (wCons (wVar 0) (wCons (wVar 1) (wNil))))) (wNext)) <|
  wRet (wC (.bl false))

end My

namespace My
open PySem PySem.Spec PyProof.Rows L2 VL
def w_value_of (A : Cs) : DS :=
  wSeq (wIfS (wT (wOp oIsN (wVar 0) (wC .non))) (wRet (wC (.int 0))) (wNext)) <|
  wSeq (wSet 2 (wFz (wC (.int 0)))) <|
  wSeq (wIfS (wT (wOp oEq (wOp oIx (wVar 0) (wC (.int 1))) (wC (.str "r")))) (wSet 2 (wFz (wC (.int 1)))) (wNext)) <|
  wRet (wOp oAdd (wOp oAdd (wC (.int 1)) (wOp oMul (wOp oAdd (wOp oMul (wOp oIx (wVar 0) (wC (.int 0))) (wC (.int 2))) (wVar 2)) (wVar 1))) (wOp oIx (wVar 0) (wC (.int 2))))

def w_entry_of (A : Cs) : DS :=
  wSeq (wIfS (wT (wOp oEq (wVar 0) (wC (.int 0)))) (wRet (wC .non)) (wNext)) <|
  wSeq (wAsg (wCB oDivmod (wCons (wOp (oI0 fun i j => i - j) (wVar 0) (wC (.int 1))) (wCons (wVar 1) (wNil)))) (wgTup 2 (wgCons (wgN 2) (wgCons (wgN 3) (wgNil))))) <|
  wSeq (wAsg (wCB oDivmod (wCons (wVar 2) (wCons (wC (.int 2)) (wNil)))) (wgTup 2 (wgCons (wgN 4) (wgCons (wgN 5) (wgNil))))) <|
  wSeq (wIfS (wT (wOp oEq (wVar 5) (wC (.int 0)))) (wRet (wTup (wCons (wVar 4) (wCons (wC (.str "l")) (wCons (wVar 3) (wNil)))))) (wNext)) <|
  wRet (wTup (wCons (wVar 4) (wCons (wC (.str "r")) (wCons (wVar 3) (wNil)))))

def w_machine_of (A : Cs) : DS :=
  wSeq (wIfS (wOr (wT (wOp (oB0 fun i j => decide (i < j)) (wVar 0) (wC (.int 1)))) (wOr (wT (wOp (oB0 fun i j => decide (i < j)) (wVar 1) (wC (.int 1)))) (wT (wOp (oB0 fun i j => decide (i < j)) (wVar 2) (wC (.int 0)))))) (wRaise A.C_NoNumber) (wNext)) <|
  wSeq (wSet 3 (wFz (wOp oAdd (wOp oMul (wOp oMul (wC (.int 2)) (wVar 0)) (wVar 1)) (wC (.int 1))))) <|
  wSeq (wSet 4 (wLst (wNil))) <|
  wSeq (wFor (wRng1 (wCons (wVar 0) (wNil))) (wgN 5) (wSeq (wSet 6 (wLst (wNil))) <|
  wSeq (wFor (wRng1 (wCons (wVar 1) (wNil))) (wgN 7) (wSeq (wAsg (wCB oDivmod (wCons (wVar 2) (wCons (wVar 3) (wNil)))) (wgTup 2 (wgCons (wgN 2) (wgCons (wgN 8) (wgNil))))) <|
  wDrop (wMut mApp (wVar 6) (wCons (wCall [.F, .F] (W_entry_of A) [] (wCons (wVar 8) (wCons (wVar 0) (wNil)))) (wNil))))) <|
  wDrop (wMut mApp (wVar 4) (wCons (wFrz 6) (wNil))))) <|
  wSeq (wIfS (wT (wOp (oB0 fun i j => decide (j < i)) (wVar 2) (wC (.int 0)))) (wRaise A.C_NoNumber) (wNext)) <|
  wRet (wMake A.C_Machine 1 [.F] (W_Machine_init A) [] (wCons (wFrz 4) (wNil)))

def w_number_of (A : Cs) : DS :=
  wSeq (wSet 1 (wFz (wCall [.F] (W_states_of A) [] (wCons (wVar 0) (wNil))))) <|
  wSeq (wSet 2 (wFz (wOp oAdd (wOp oMul (wOp oMul (wC (.int 2)) (wVar 1)) (wCall [.F] (W_signs_of A) [] (wCons (wVar 0) (wNil)))) (wC (.int 1))))) <|
  wSeq (wSet 3 (wFz (wC (.int 0)))) <|
  wSeq (wFor (wRev (wFld A.C_Machine "table" 0 (wVar 0))) (wgN 4) (wFor (wRev (wVar 4)) (wgN 5) (wSet 3 (wFz (wOp oAdd (wOp oMul (wVar 3) (wVar 2)) (wCall [.F, .F] (W_value_of A) [] (wCons (wVar 5) (wCons (wVar 1) (wNil))))))))) <|
  wRet (wVar 3)

end My

namespace My
open PySem PySem.Spec PyProof.Rows L2 VL
def w__law_nextR (A : Cs) : DS :=
  wSeq (wSub (wOp oAdd (wOp oIx (wVar 1) (wC (.int 0))) (wC (.int 1))) (wVar 1) (wC (.int 0))) <|
  wSeq (wSet 2 (wFz (wC (.int 0)))) <|
  wSeq (wIfS (wT (wOp (oB0 fun i j => decide (j < i)) (wCB oLen (wCons (wVar 0) (wNil))) (wC (.int 0)))) (wSet 2 (wFz (wOp oIx (wVar 0) (wOp (oI (fun _ j => 0 < j) fun i j => i % j) (wOp oIx (wVar 1) (wC (.int 0))) (wCB oLen (wCons (wVar 0) (wNil))))))) (wNext)) <|
  wSeq (wSet 3 (wFz (wOp (oI (fun _ j => 0 < j) fun i j => i % j) (wOp oMul (wOp oAdd (wOp oAdd (wOp (oI (fun _ j => 0 < j) fun i j => i % j) (wVar 2) (wC (.int 2147483647))) (wOp oMul (wOp oMul (wOp oIx (wVar 1) (wC (.int 0))) (wOp oIx (wVar 1) (wC (.int 0)))) (wC (.int 7919)))) (wC (.int 11))) (wC (.int 48271))) (wC (.int 2147483647))))) <|
  wRet (wOp (oI (fun _ j => 0 < j) fun i j => i % j) (wOp oMul (wVar 3) (wVar 3)) (wC (.int 1999999973)))

def w__law_tableR (A : Cs) : DS :=
  wSeq (wSet 4 (wLst (wNil))) <|
  wSeq (wFor (wRng1 (wCons (wVar 2) (wNil))) (wgN 5) (wSeq (wSet 6 (wLst (wNil))) <|
  wSeq (wFor (wRng1 (wCons (wVar 3) (wNil))) (wgN 7) (wSeq (wSet 8 (wFz (wCall [.F, .P (.L .F)] (W__law_nextR A) [] (wCons (wVar 0) (wCons (wVar 1) (wNil)))))) <|
  wSeq (wSet 9 (wFz (wTup (wCons (wOp (oI (fun _ j => 0 < j) fun i j => i % j) (wOp (oI CDiv fun i j => i / j) (wVar 8) (wC (.int 9))) (wVar 3)) (wCons (wOp oIx (wC (.str "lr")) (wOp (oI (fun _ j => 0 < j) fun i j => i % j) (wOp (oI CDiv fun i j => i / j) (wVar 8) (wC (.int 100))) (wC (.int 2)))) (wCons (wOp (oI (fun _ j => 0 < j) fun i j => i % j) (wOp (oI CDiv fun i j => i / j) (wVar 8) (wC (.int 300))) (wVar 2)) (wNil))))))) <|
  wSeq (wIfS (wT (wOp oEq (wOp (oI (fun _ j => 0 < j) fun i j => i % j) (wVar 8) (wC (.int 9))) (wC (.int 0)))) (wSet 9 (wFz (wC .non))) (wNext)) <|
  wDrop (wMut mApp (wVar 6) (wCons (wVar 9) (wNil))))) <|
  wDrop (wMut mApp (wVar 4) (wCons (wFrz 6) (wNil))))) <|
  wRet (wMov 4)

def w__law_sameD (A : Cs) (n : Nat) : DS :=
  wSeq (wIfS (wT (wIsi "dict" (wVar 1))) (wNever) (wNext)) <|
  wSeq (wIfS (wOr (wT (wIsi "list" (wVar 1))) (wT (wIsi "tuple" (wVar 1)))) (wSeq (wIfS (wOr (wT (wOp oNe (wIsi "list" (wVar 0)) (wIsi "list" (wVar 1)))) (wT (wOp oNe (wIsi "tuple" (wVar 0)) (wIsi "tuple" (wVar 1))))) (wRet (wC (.bl false))) (wNext)) <|
  wRet (wAndV (wOp oEq (wCB oLen (wCons (wVar 0) (wNil))) (wCB oLen (wCons (wVar 1) (wNil)))) (wCB oAll (wCons (wLc (wZip (wCons (wVar 0) (wCons (wVar 1) (wNil)))) (wgTup 2 (wgCons (wgN 3) (wgCons (wgN 4) (wgNil)))) (wYes) (wCall [.F, .F] (W__law_sameD A n) [] (wCons (wVar 3) (wCons (wVar 4) (wNil)))) [3, 4] []) (wNil))))) (wNext)) <|
  wSeq (wIfS (wT (wIsi "str" (wVar 1))) (wRet (wAndV (wIsi "str" (wVar 0)) (wOp oEq (wVar 0) (wVar 1)))) (wNext)) <|
  wRet (wAndV (wIsi "int" (wVar 0)) (wAndV (wNotV (wIsi "bool" (wVar 0))) (wOp oEq (wVar 0) (wVar 1))))

def w__law_sameE (A : Cs) (n : Nat) : DS :=
  wSeq (wIfS (wT (wIsi "dict" (wVar 1))) (wNever) (wNext)) <|
  wSeq (wIfS (wOr (wT (wIsi "list" (wVar 1))) (wT (wIsi "tuple" (wVar 1)))) (wSeq (wIfS (wAnd (wT (wIsi "list" (wVar 1))) (wNot (wT (wIsi "list" (wVar 0))))) (wRet (wC (.bl false))) (wNext)) <|
  wSeq (wIfS (wOr (wAnd (wT (wIsi "tuple" (wVar 1))) (wNot (wT (wIsi "tuple" (wVar 0))))) (wT (wOp oNe (wCB oLen (wCons (wVar 0) (wNil))) (wCB oLen (wCons (wVar 1) (wNil)))))) (wRet (wC (.bl false))) (wNext)) <|
  wRet (wCB oAll (wCons (wLc (wZip (wCons (wVar 0) (wCons (wVar 1) (wNil)))) (wgTup 2 (wgCons (wgN 3) (wgCons (wgN 4) (wgNil)))) (wYes) (wCall [.F, .F] (W__law_sameE A n) [] (wCons (wVar 3) (wCons (wVar 4) (wNil)))) [3, 4] []) (wNil)))) (wNext)) <|
  wSeq (wIfS (wT (wIsi "str" (wVar 1))) (wRet (wAndV (wIsi "str" (wVar 0)) (wOp oEq (wVar 0) (wVar 1)))) (wNext)) <|
  wRet (wAndV (wIsi "int" (wVar 0)) (wAndV (wNotV (wIsi "bool" (wVar 0))) (wOp oEq (wVar 0) (wVar 1))))

end My

namespace My
open PySem PySem.Spec PyProof.Rows L2 VL
end My

namespace My
open PySem PySem.Spec PyProof.Rows L2 VL
/-! sets by simp -/
def hasK (ks : List NestedKey) (k : NestedKey) : Bool := decide (k ∈ ks)
section
variable {k : Kd} {ks : List NestedKey} {x : Kd × D} {q : Kd × D → Prop}
theorem set_names : ((ks.map fun k => (k, D.bl true)).map fun x => nkD x.1) = ks.map nkD := by simp [List.map_map, Function.comp_def]
@[simp ↓] theorem itnK_set {q : List D → Prop} : itnK (.fz, setN ks) q = q (ks.map nkD) := by
  show q _ = _
  rw [set_names]
@[simp ↓] theorem oInX_setF : oInX x (.fz, setN ks) q = optK (keyN x.2) fun key => q (.fz, .bl (hasK ks key)) := by
  unfold setN hasK
  simp only [oInX_n, ndcK_f, isS_set]
@[simp ↓] theorem oNotInX_setF : oNotInX x (.fz, setN ks) q = optK (keyN x.2) fun key => q (.fz, .bl (!hasK ks key)) := by
  unfold setN hasK
  simp only [oNotInX_n, ndcK_f, isS_set]
@[simp ↓] theorem oLenX_setF : oLenX [(.fz, setN ks)] q = q (.fz, .int ks.length) := by
  unfold setN
  simp only [oLenX_n, ndcK_f, List.length_map]
@[simp ↓] theorem oLenX_setB {i : Nat} {p : List Nat} : oLenX [(.bor i p .N, setN ks)] q = q (.fz, .int ks.length) := by
  unfold setN
  simp only [oLenX_n, ndcK_b, List.length_map]
@[simp ↓] theorem oListX_setF : oListX [(.fz, setN ks)] q = q (.new (.L .F), .lst (ks.map nkD)) := by
  unfold setN
  simp only [oListX_n, ndcK_f, set_names]
@[simp ↓] theorem oListX_setB {i : Nat} {p : List Nat} : oListX [(.bor i p .N, setN ks)] q = q (.new (.L .F), .lst (ks.map nkD)) := by
  unfold setN
  simp only [oListX_n, ndcK_b, set_names]
@[simp ↓] theorem subNK_set {i : Nat} {p : List Nat} {d : D} {q : Nat → List Nat → D → Prop} : subNK (.bor i p .N, setN ks) (.fz, d) (.bl true) q = optK (keyN d) fun k => small (ks.length + 1) = true ∧ q i p (setN (putS ks k)) := by
  unfold setN
  simp only [subNK_n, List.length_map, putND_set]
@[simp] theorem isN_set : isN (setN ks) = false := rfl
end
theorem memG {L : List Gram} {g : Gram} : nkG g ∈ L.map nkG ↔ g ∈ L := by
  rw [List.mem_map]
  exact ⟨fun ⟨y, hy, e⟩ => nkG_inj e ▸ hy, fun h => ⟨g, h, rfl⟩⟩
theorem memX {L : List Ctx} {g : Ctx} : nkX g ∈ L.map nkX ↔ g ∈ L := by
  rw [List.mem_map]
  exact ⟨fun ⟨y, hy, e⟩ => nkX_inj e ▸ hy, fun h => ⟨g, h, rfl⟩⟩
@[simp] theorem decG {L : List Gram} {g : Gram} : hasK (L.map nkG) (nkG g) = decide (g ∈ L) := decide_eq_decide.mpr memG
@[simp] theorem decX {L : List Ctx} {g : Ctx} : hasK (L.map nkX) (nkX g) = decide (g ∈ L) := decide_eq_decide.mpr memX
@[simp] theorem compG : nkD ∘ nkG = gramD := by funext g; simp
@[simp] theorem compX : nkD ∘ nkX = ctxD := by funext g; simp
@[simp ↓] theorem namesG {L : List Gram} : (L.map nkG).map nkD = L.map gramD := by rw [List.map_map, compG]
@[simp ↓] theorem namesX {L : List Ctx} : (L.map nkX).map nkD = L.map ctxD := by rw [List.map_map, compX]
end My

namespace My
open PySem PySem.Spec PyProof.Rows L2 VL
end My

namespace My
open PySem PySem.Spec PyProof.Rows L2 VL
end My

namespace My
open PySem PySem.Spec PyProof.Rows L2 VL
theorem d_is_number (A : Cs) (ds : List D) (P : Pf) (h : W_is_number A ds P) : w_is_number A (endsOf [.F, .F] ds P) (zr [.F, .F] ds ++ List.replicate 0 none) := by
  obtain ⟨d, n, rfl, hd, h⟩ := h
  unfold w_is_number
  cases d with
  | int x =>
    simp [numB] at h ⊢
    by_cases c : 0 ≤ x
    · simp [c] at h ⊢
      exact h
    · simp [c] at h ⊢
      exact h
  | bl b => simpa [numB] using h
  | non => simpa [numB] using h
  | str s => simpa [numB] using h
  | tup xs => simpa [numB] using h
  | lst xs => simpa [numB] using h
  | dct xs => simp [plB] at hd
  | obj C xs => simp [plB] at hd
  | scr xs => simp [plB] at hd
  | exc xs => simp [plB] at hd
  | ndc xs => simp [plB] at hd
  | exf _ _ => simp [plB] at hd
theorem d_entry_kept (A : Cs) (ds : List D) (P : Pf) (h : W_entry_kept A ds P) : w_entry_kept A (endsOf [.F, .F, .F] ds P) (zr [.F, .F, .F] ds ++ List.replicate 3 none) := by
  obtain ⟨e, st, sg, rfl, he, h⟩ := h
  unfold w_entry_kept
  cases e with
  | none =>
    simp [entD] at h ⊢
    exact h
  | some e =>
    obtain ⟨w, r, s⟩ := e
    obtain ⟨⟨h1, h2⟩, h3, h4⟩ := he
    simp [entD] at h ⊢
    simp [h1, h2, h3, h4]
    cases r <;> simpa [wayS] using h
end My

namespace My
open PySem PySem.Spec PyProof.Rows L2 VL
theorem fmod_bound (m : Int) : 0 ≤ m % 2147483647 ∧ m % 2147483647 < 2147483647 := ⟨Int.emod_nonneg _ (by decide), Int.emod_lt_of_pos _ (by decide)⟩
theorem cmul_l {a b : Int} (h1 : 0 ≤ a) (h2 : a < 18446744073709551616) : CMul a b := .inl ⟨by omega, by omega⟩
theorem cmul_r {a b : Int} (h1 : 0 ≤ b) (h2 : b < 18446744073709551616) : CMul a b := .inr ⟨by omega, by omega⟩
theorem lr_at (m : Int) : ∃ r : Bool, L2.atI (Str.ofString "lr").cps.toList (m % 2) = some (if r then 114 else 108) ∧ (⟨#[if r then 114 else 108]⟩ : Str) = wayS r := by
  have e : (Str.ofString "lr").cps.toList = [108, 114] := by decide +kernel
  have hm : m % 2 = 0 ∨ m % 2 = 1 := by omega
  rcases hm with h | h
  · refine ⟨false, ?_, by decide +kernel⟩
    rw [e, h]
    rfl
  · refine ⟨true, ?_, by decide +kernel⟩
    rw [e, h]
    rfl
theorem lr_len : (Str.ofString "lr").length = 2 := by decide +kernel
theorem d_Machine_init (A : Cs) (ds : List D) (P : Pf) (h : W_Machine_init A ds P) : w_Machine_init A (endsOf (mkMs [.F] 1) ds P) (zr (mkMs [] 1) ds ++ List.replicate 5 none) := by
  obtain ⟨t, st, sg, C, rfl, ht, h⟩ := h
  unfold w_Machine_init
  have hst := ht.st0
  have e := atI_row (g := rowL) ht (q := 0) (by omega) (by omega)
  have l := row_len ht (q := 0) (by omega) (by omega)
  have hl := ht.len
  have hl0 : ¬ t.length = 0 := by omega
  have hsg : ¬ sg = 0 := by have := ht.sg0; omega
  simp [mkMs, tabL, e, rowL, l]
  refine ⟨by intro z; subst z; simp at hl0, hsg, ?_⟩
  refine for_inv (fun i r => ∃ a b : Option D, r = [some (.P (.O []), .obj A.C_Machine []), some (.F, tabL t), some (.F, .int t.length), some (.F, .int sg), some (.L .F, .lst ((t.take i).map rowT)), fr a, fr b]) ⟨none, none, rfl⟩ ?_ ?_
  · rintro r ⟨a, b, rfl⟩
    have e9 : (t.take (List.map rowL t).length).map rowT = t.map rowT := by rw [List.length_map, List.take_length]
    rw [e9]
    simp
    exact h
  · rintro i d r hd ⟨a, b, rfl⟩
    rw [List.getElem?_map] at hd
    cases em : t[i]? with
    | none => rw [em] at hd; simp at hd
    | some row =>
      rw [em] at hd
      simp at hd
      subst hd
      have hi := (List.getElem?_eq_some_iff.mp em).1
      have hr := ht.row row (List.mem_of_getElem? em)
      have et : t.take (i + 1) = t.take i ++ [row] := by rw [List.take_add_one, em]; rfl
      have hS := ht.stS
      have hG := ht.sgS
      simp [rowL, hr.1]
      refine lc_map id ?_ ?_
      · simp [et, rowT]
        refine ⟨by omega, ?_⟩
        rw [← List.map_take, ← List.map_take, et]
        simp [rowT]
      · intro d hd acc ha
        obtain ⟨en, hen, rfl⟩ := List.mem_map.mp hd
        rw [List.length_map, hr.1] at ha
        simp
        unfold W_entry_kept
        refine ⟨en, st, sg, by rw [hl], hr.2 en hen, ?_⟩
        simp
        omega
theorem TabOk.set {t : Tab} {st sg : Nat} (h : TabOk t st sg) (k j : Nat) (e : Ent) (he : EntOk st sg e) : TabOk (t.set k ((rowAt t k).set j e)) st sg := by
  refine ⟨h.st0, h.sg0, h.stS, h.sgS, by rw [List.length_set]; exact h.len, fun r hr => ?_⟩
  by_cases hk : k < t.length
  · have hm : rowAt t k ∈ t := rowAt_mem h (q := (k : Int)) (by omega) (by have := h.len; omega)
    rcases List.mem_or_eq_of_mem_set hr with q | rfl
    · exact h.row r q
    · refine ⟨by rw [List.length_set]; exact (h.row _ hm).1, fun e' he' => ?_⟩
      rcases List.mem_or_eq_of_mem_set he' with q | rfl
      · exact (h.row _ hm).2 e' q
      · exact he
  · rw [List.set_eq_of_length_le (by omega)] at hr
    exact h.row r hr
def mb_in (A : Cs) : DS := (wSeq (wSet 2 (wFz (wCall [.F, .P (.L .F)] (W__law_next A) [] (wCons (wVar 0) (wCons (wVar 1) (wNil)))))) <|
  wSeq (wIfS (wAnd (wT (wOp oEq (wOp (oI (fun _ j => 0 < j) fun i j => i % j) (wVar 2) (wC (.int 3))) (wC (.int 0)))) (wT (wOp oNotN (wOp oIx (wOp oIx (wVar 5) (wVar 6)) (wVar 7)) (wC .non)))) (wSub (wTup (wCons (wOp oIx (wOp oIx (wOp oIx (wVar 5) (wVar 6)) (wVar 7)) (wC (.int 0))) (wCons (wOp oIx (wOp oIx (wOp oIx (wVar 5) (wVar 6)) (wVar 7)) (wC (.int 1))) (wCons (wVar 6) (wNil))))) (wOp oIx (wVar 5) (wVar 6)) (wVar 7)) (wNext)) <|
  wIfS (wAnd (wT (wOp (oB0 fun i j => decide (j < i)) (wOp (oI (fun _ j => 0 < j) fun i j => i % j) (wOp (oI CDiv fun i j => i / j) (wVar 2) (wC (.int 3))) (wC (.int 7))) (wC (.int 1)))) (wT (wOp oIsN (wOp oIx (wOp oIx (wVar 5) (wVar 6)) (wVar 7)) (wC .non)))) (wSub (wTup (wCons (wOp (oI (fun _ j => 0 < j) fun i j => i % j) (wOp (oI CDiv fun i j => i / j) (wVar 2) (wC (.int 30))) (wVar 4)) (wCons (wOp oIx (wC (.str "lr")) (wOp (oI (fun _ j => 0 < j) fun i j => i % j) (wOp (oI CDiv fun i j => i / j) (wVar 2) (wC (.int 300))) (wC (.int 2)))) (wCons (wOp (oI (fun _ j => 0 < j) fun i j => i % j) (wOp (oI CDiv fun i j => i / j) (wVar 2) (wC (.int 600))) (wVar 3)) (wNil))))) (wOp oIx (wVar 5) (wVar 6)) (wVar 7)) (wNext))
end My

namespace My
open PySem PySem.Spec PyProof.Rows L2 VL
end My

namespace My
open PySem PySem.Spec PyProof.Rows L2 VL
end My

namespace My
open PySem PySem.Spec PyProof.Rows L2 VL
/-- the dict of the shots met -/
def metD (t : Tab) (i : Nat) : List (NestedKey × D) := (List.range i).map fun j => (nkC (runC t j cf0).2, .int (j : Int))
/-- the last so many of the first ones -/
def backF (t : Tab) (l i : Nat) : Option Nat := ((List.range l).drop (l - i)).find? fun f => shR t f l
end My

namespace My
open PySem PySem.Spec PyProof.Rows L2 VL
end My

namespace My
open PySem PySem.Spec PyProof.Rows L2 VL
end My

namespace My
open PySem PySem.Spec PyProof.Rows L2 VL
abbrev stW (A : Cs) (t : Tab) (s : Wl) (many : Int) (a b c : Option D) : Rho := [some (.F, machD A t), some (.P .N, setN (s.L.map nkG)), some (.P .N, setN (s.R.map nkG)), some (.P .N, setN (s.C.map nkX)), some (.F, .int many), fr a, fr b, fr c]
end My

namespace My
open PySem PySem.Spec PyProof.Rows L2 VL
abbrev stL (A : Cs) (t : Tab) (w : Nat) (most : Int) (s : Wl) (came : Int) : Rho := [some (.F, machD A t), some (.F, .int w), some (.F, .int most), some (.F, gramD (blankG w)), some (.N, setN (s.L.map nkG)), some (.N, setN (s.R.map nkG)), some (.N, setN (s.C.map nkX)), some (.F, .int came)]
end My

namespace My
open PySem PySem.Spec PyProof.Rows L2 VL
end My

namespace My
open PySem PySem.Spec PyProof.Rows L2 VL
end My

namespace My
open PySem PySem.Spec PyProof.Rows L2 VL
theorem d__law_nextR (A : Cs) (ds : List D) (P : Pf) (h : W__law_nextR A ds P) : w__law_nextR A (endsOf [.F, .P (.L .F)] ds P) (zr [.F, .P (.L .F)] ds ++ List.replicate 2 none) := by
  unfold W__law_nextR at h
  unfold W__law_next at h
  split at h
  · rename_i ns a
    obtain ⟨⟨h0, h1⟩, h⟩ := h
    unfold w__law_nextR
    have fin : ∀ v : Int, P.ok (.fz, .int (v % 2147483647 * (v % 2147483647) % 1999999973)) [.scr ns, .lst [.int (a + 1)]] := fun v => h _ (Int.emod_nonneg _ (by decide)) (Int.emod_lt_of_pos _ (by decide))
    have c1 : CMul (a + 1) (a + 1) := cmul_l (by omega) (by omega)
    have c2 : ∀ x : Int, CMul x 7919 := fun x => cmul_r (by decide) (by decide)
    have c3 : ∀ x : Int, CMul x 48271 := fun x => cmul_r (by decide) (by decide)
    have c4 : ∀ x : Int, CMul (x % 2147483647) (x % 2147483647) := fun x => cmul_l (fmod_bound x).1 (by have := (fmod_bound x).2; omega)
    simp [c1, c2, c3, c4, fin]
    intro hn
    have e := atI_of (xs := ns) (i := (a + 1) % (ns.length : Int)) (Int.emod_nonneg _ (by omega)) (Int.emod_lt_of_pos _ (by omega))
    have hlt : ((a + 1) % (ns.length : Int)).toNat < ns.length := by
      have := Int.emod_lt_of_pos (a + 1) (b := (ns.length : Int)) (by omega)
      have := Int.emod_nonneg (a + 1) (b := (ns.length : Int)) (by omega)
      omega
    rw [e, List.getElem?_eq_getElem hlt]
    simp [fin]
    exact hn
  · exact h.elim
theorem d__law_tableR (A : Cs) (ds : List D) (P : Pf) (h : W__law_tableR A ds P) : w__law_tableR A (endsOf [.F, .P (.L .F), .F, .F] ds P) (zr [.F, .P (.L .F), .F, .F] ds ++ List.replicate 6 none) := by
  obtain ⟨ns, a, st, sg, rfl, ha, hst, hsg, h⟩ := h
  unfold w__law_tableR
  simp
  refine ⟨⟨by omega, by omega⟩, ?_⟩
  refine for_inv (fun i r => ∃ (t : Tab) (a' : Int) (k l j m e : Option D), r = [some (.F, .scr ns), some (.P (.L .F), .lst [.int a']), some (.F, .int st), some (.F, .int sg), some (.L .F, tabL t), fr k, fr l, fr j, fr m, fr e] ∧ t.length = i ∧ (∀ r ∈ t, r.length = sg ∧ ∀ e ∈ r, EntOk st sg e) ∧ a ≤ a' ∧ a' ≤ a + i * 100) ⟨[], a, none, none, none, none, none, rfl, rfl, by simp, by omega, by omega⟩ ?_ ?_
  · rintro r ⟨t, a', k, l, j, m, e, rfl, hl, hr, h1, h2⟩
    rw [rangeD_len] at hl h2
    simp
    exact h t a' ⟨by omega, by omega, by omega, by omega, by omega, hr⟩ h1 (by omega)
  · rintro i d r hd ⟨t, a', k, l, j, m, e, rfl, hl, hr, h1, h2⟩
    obtain ⟨hi, rfl⟩ := rangeD_get hd
    simp
    refine ⟨⟨by omega, by omega⟩, ?_⟩
    refine for_inv (fun i' r => ∃ (row : List Ent) (a'' : Int) (j m e : Option D), r = [some (.F, .scr ns), some (.P (.L .F), .lst [.int a'']), some (.F, .int st), some (.F, .int sg), some (.L .F, tabL t), some (.F, .int i), some (.L .F, rowL row), fr j, fr m, fr e] ∧ row.length = i' ∧ (∀ e ∈ row, EntOk st sg e) ∧ a ≤ a'' ∧ a'' ≤ a + i * 100 + i') ⟨[], a', j, m, e, by simp [rowL], rfl, by simp, h1, by omega⟩ ?_ ?_
    · rintro r ⟨row, a'', j, m, e, rfl, hl', hr', h1', h2'⟩
      rw [rangeD_len] at hl' h2'
      simp [tabL, rowL]
      refine ⟨by omega, t ++ [row], a'', ⟨rfl, by simp [rowL]⟩, by simp; omega, ?_, by omega, by omega⟩
      intro r hr2
      rcases List.mem_append.mp hr2 with q | q
      · exact hr r q
      · simp at q
        subst q
        exact ⟨hl', hr'⟩
    · rintro i' d r hd ⟨row, a'', j, m, e, rfl, hl', hr', h1', h2'⟩
      obtain ⟨hi', rfl⟩ := rangeD_get hd
      simp [lr_len, rowL]
      refine ⟨⟨by omega, by omega⟩, fun m hm0 hm1 => ⟨⟨by omega, by omega⟩, by omega, ⟨by omega, by omega⟩, ?_⟩⟩
      obtain ⟨r, er, ew⟩ := lr_at (m / 100)
      rw [er]
      simp [ew]
      refine ⟨⟨by omega, by omega⟩, by omega, ?_⟩
      by_cases c : m % 9 = 0
      · rw [if_pos c]
        refine ⟨by omega, row ++ [none], a'' + 1, ⟨rfl, by simp [entD]⟩, by simp; omega, ?_, by omega, by omega⟩
        intro e he
        rcases List.mem_append.mp he with q | q
        · exact hr' e q
        · simp at q
          subst q
          trivial
      · rw [if_neg c]
        refine ⟨by omega, row ++ [some (m / 9 % sg, r, m / 300 % st)], a'' + 1, ⟨rfl, by simp [entD]⟩, by simp; omega, ?_, by omega, by omega⟩
        intro e he
        rcases List.mem_append.mp he with q | q
        · exact hr' e q
        · simp at q
          subst q
          exact ⟨⟨Int.emod_nonneg _ (by omega), Int.emod_lt_of_pos _ (by omega)⟩, Int.emod_nonneg _ (by omega), Int.emod_lt_of_pos _ (by omega)⟩
end My

namespace My
open PySem PySem.Spec PyProof.Rows L2 VL
def w_drawn (A : Cs) : DS :=
  wSeq (wAsg (wVar 0) (wgTup 3 (wgCons (wgN 1) (wgCons (wgN 2) (wgCons (wgN 3) (wgNil)))))) <|
  wSeq (wSet 4 (wDic)) <|
  wSeq (wFor (wIt (wVar 3)) (wgTup 2 (wgCons (wgN 5) (wgCons (wgN 6) (wgNil)))) (wSub (wVar 6) (wVar 4) (wVar 5))) <|
  wSeq (wSet 7 (wFz (wCB oMinL (wCons (wOp oAdd (wLst (wCons (wVar 2) (wNil))) (wLc (wIt (wVar 3)) (wgTup 2 (wgCons (wgN 5) (wgCons (wgN 6) (wgNil)))) (wYes) (wVar 5) [5, 6] [])) (wNil))))) <|
  wSeq (wSet 8 (wFz (wCB oMaxL (wCons (wOp oAdd (wLst (wCons (wVar 2) (wNil))) (wLc (wIt (wVar 3)) (wgTup 2 (wgCons (wgN 5) (wgCons (wgN 6) (wgNil)))) (wYes) (wVar 5) [5, 6] [])) (wNil))))) <|
  wSeq (wSet 9 (wFz (wC (.str "")))) <|
  wSeq (wFor (wRngL (wCons (wVar 7) (wCons (wOp oAdd (wVar 8) (wC (.int 1))) (wNil)))) (wgN 5) (wSeq (wSet 6 (wFz (wCB oStr (wCons (wGet (wVar 4) (wCons (wVar 5) (wCons (wC (.int 0)) (wNil)))) (wNil))))) <|
  wSeq (wIfS (wT (wOp oEq (wVar 5) (wVar 2))) (wSet 6 (wFz (wOp oAdd (wOp oAdd (wOp oAdd (wOp oAdd (wC (.str "[")) (wCB oStr (wCons (wVar 1) (wNil)))) (wC (.str ":"))) (wVar 6)) (wC (.str "]"))))) (wNext)) <|
  wAug 9 oAddS (wVar 6))) <|
  wRet (wVar 9)

def w__law_drawn (A : Cs) : DS :=
  wSeq (wAsg (wVar 0) (wgTup 3 (wgCons (wgN 1) (wgCons (wgN 2) (wgCons (wgN 3) (wgNil)))))) <|
  wSeq (wSet 6 (wFz (wOp oAdd (wLst (wCons (wVar 2) (wNil))) (wLc (wIt (wVar 3)) (wgTup 2 (wgCons (wgN 4) (wgCons (wgN 5) (wgNil)))) (wYes) (wVar 4) [4, 5] [])))) <|
  wSeq (wSet 7 (wFz (wC (.str "")))) <|
  wSeq (wFor (wRngL (wCons (wCB oMinL (wCons (wVar 6) (wNil))) (wCons (wOp oAdd (wCB oMaxL (wCons (wVar 6) (wNil))) (wC (.int 1))) (wNil)))) (wgN 4) (wSeq (wSet 5 (wFz (wJoin "" (wLc (wIt (wVar 3)) (wgTup 2 (wgCons (wgN 8) (wgCons (wgN 9) (wgNil)))) (wT (wOp oEq (wVar 8) (wVar 4))) (wCB oStr (wCons (wVar 9) (wNil))) [8, 9] [])))) <|
  wSeq (wIfS (wT (wOp oEq (wVar 5) (wC (.str "")))) (wSet 5 (wFz (wC (.str "0")))) (wNext)) <|
  wSeq (wIfS (wT (wOp oEq (wVar 4) (wVar 2))) (wSet 5 (wFz (wOp oAdd (wOp oAdd (wOp oAdd (wOp oAdd (wC (.str "[")) (wCB oStr (wCons (wVar 1) (wNil)))) (wC (.str ":"))) (wVar 5)) (wC (.str "]"))))) (wNext)) <|
  wSet 7 (wFz (wOp oAdd (wVar 7) (wVar 5))))) <|
  wRet (wVar 7)

end My

namespace My
open PySem PySem.Spec PyProof.Rows L2 VL
end My

namespace My
open PySem PySem.Spec PyProof.Rows L2 VL
local macro_rules | `(tactic| simp $[[$args,*]]? $[$loc]?) => `(tactic| simp -implicitDefEqProofs $[[$args,*]]? $[$loc]?)
local macro_rules | `(tactic| simpa $[[$args,*]]? using $e) => `(tactic| simpa -implicitDefEqProofs $[[$args,*]]? using $e)
open TL PySem.StrLaws PySem.Builtin.Str
theorem log_ok {i : Int} (h0 : 0 ≤ i) (h1 : i < big) : i.natAbs.log2 < 1920 := by
  have h2 : i.natAbs < 2 ^ 200 := by
    have : big < 2 ^ 200 := by decide
    omega
  rcases Nat.eq_zero_or_pos i.natAbs with c | c
  · rw [c]; decide
  · have := (Nat.log2_lt (by omega)).mpr h2
    omega
theorem strI_len60 {i : Int} (h0 : 0 ≤ i) (h1 : i < big) : (strI i).length ≤ 60 := by
  rw [len_tl, strI_of h0]
  exact (numL_lenB (by omega)).2
theorem wayS_len {r : Bool} : (wayS r).length = 1 := by cases r <;> decide +kernel
theorem lenD_s {a : Str} (h : a.length ≤ 80000) : lenD (.str a) = some a.length := by
  show (if small a.length = true then some a.length else none) = _
  rw [if_pos (by simp; omega)]
theorem d_is_figures (A : Cs) (ds : List D) (P : Pf) (h : W_is_figures A ds P) : w_is_figures A (endsOf [.F] ds P) (zr [.F] ds ++ List.replicate 0 none) := by
  obtain ⟨a, rfl, hl, h⟩ := h
  unfold w_is_figures
  simp [lenD_s hl]
  have e1 : (a = Str.ofString "0") = (a = ("0" : Str)) := rfl
  have fin : ∀ b : Bool, figB a = b → P.ok (.fz, .bl b) [.str a] := fun b e => by rw [e] at h; exact h
  split
  · split
    · refine ⟨by omega, ?_⟩
      by_cases c : Txt.stripChars a figS = ("" : Str)
      · have c' : Txt.stripChars a (Str.ofString "0123456789") = Str.ofString "" := c
        simp [c']
        split
        · rename_i c2
          refine fin _ ?_
          unfold figB
          rw [c, c2]
          decide
        · rename_i c2
          refine fin _ ?_
          unfold figB
          simp [c, c2]
          omega
      · have c' : ¬ Txt.stripChars a (Str.ofString "0123456789") = Str.ofString "" := c
        simp [c']
        refine fin _ ?_
        unfold figB
        simp [c]
    · refine fin _ ?_
      unfold figB
      simp
      omega
  · refine fin _ ?_
    unfold figB
    simp
    omega
theorem sub_len {x : Str} {i j : Nat} : (strSub x i j).length ≤ x.length := by
  rw [len_tl, tl_strSub, List.length_take, List.length_drop, ← len_tl]
  omega
theorem part_len {x y : Str} : (Txt.partition x y).1.length ≤ x.length ∧ (Txt.partition x y).2.2.length ≤ x.length := by
  unfold Txt.partition
  split
  · exact ⟨sub_len, sub_len⟩
  · exact ⟨Nat.le_refl _, Nat.zero_le _⟩
theorem partS_len {a : Str} : (partS a).1.length ≤ a.length ∧ (partS a).2.2.length ≤ a.length := by
  unfold partS
  split <;> exact part_len
theorem d_parts_of (A : Cs) (ds : List D) (P : Pf) (h : W_parts_of A ds P) : w_parts_of A (endsOf [.F] ds P) (zr [.F] ds ++ List.replicate 0 none) := by
  obtain ⟨a, rfl, hl, h⟩ := h
  unfold w_parts_of
  simp
  unfold partD partS at h
  split
  · rename_i c
    have c' : Txt.find a ("l" : Str) < 0 := c
    rw [if_pos c'] at h
    exact ⟨hl, h⟩
  · rename_i c
    have c' : ¬ Txt.find a ("l" : Str) < 0 := c
    rw [if_neg c'] at h
    exact ⟨hl, h⟩
theorem d_is_entry (A : Cs) (ds : List D) (P : Pf) (h : W_is_entry A ds P) : w_is_entry A (endsOf [.F] ds P) (zr [.F] ds ++ List.replicate 3 none) := by
  obtain ⟨a, rfl, hl, h⟩ := h
  unfold w_is_entry
  simp
  split
  · rename_i c
    have : entB a = true := by unfold entB; rw [c]; decide
    rw [this] at h
    exact h
  · refine ⟨a, rfl, hl, ?_⟩
    rename_i c
    have pl := partS_len (a := a)
    have c' : ¬ a = ("-" : Str) := c
    have fin : ∀ b : Bool, entB a = b → P.ok (.fz, .bl b) [.str a] := fun b e => by rw [e] at h; exact h
    simp [partD]
    split
    · rename_i c2
      have c2' : (partS a).2.1 = ("" : Str) := c2
      refine fin _ ?_
      unfold entB
      simp [c', c2']
    · rename_i c2
      have c2' : ¬ (partS a).2.1 = ("" : Str) := c2
      refine ⟨_, rfl, by omega, ?_⟩
      simp
      cases c3 : figB (partS a).1
      case true =>
        refine ⟨_, rfl, by omega, ?_⟩
        simp
        refine fin _ ?_
        unfold entB
        simp [c', c2', c3]
      case false =>
        refine fin _ ?_
        unfold entB
        simp [c', c2', c3]
theorem ent_ne' {w s : Int} {r : Bool} (hw : 0 ≤ w) : ¬ strI w ++ wayS r ++ strI s = Str.ofString "-" := ent_ne hw
theorem d_entry_from (A : Cs) (ds : List D) (P : Pf) (h : W_entry_from A ds P) : w_entry_from A (endsOf [.F] ds P) (zr [.F] ds ++ List.replicate 3 none) := by
  obtain ⟨e, rfl, he, h⟩ := h
  unfold w_entry_from
  cases e with
  | none =>
    have e1 : entS none = Str.ofString "-" := rfl
    simp [e1]
    exact h
  | some x =>
    obtain ⟨w, r, s⟩ := x
    have hl := entS_len he
    obtain ⟨⟨a1, a2⟩, a3, a4⟩ := he
    have e1 : entS (some (w, r, s)) = strI w ++ wayS r ++ strI s := rfl
    rw [e1] at hl h ⊢
    simp [ent_ne' a1]
    refine ⟨_, rfl, by omega, ?_⟩
    have l1 := strI_len60 a1 a2
    have l2 := strI_len60 a3 a4
    simp [partD, partS_ent a1 a3, int_strI a1 a2, int_strI a3 a4]
    refine ⟨by omega, by omega, by omega, by omega, ?_⟩
    exact h
end My

namespace My
open PySem PySem.Spec PyProof.Rows L2 VL
local macro_rules | `(tactic| simp $[[$args,*]]? $[$loc]?) => `(tactic| simp -implicitDefEqProofs $[[$args,*]]? $[$loc]?)
local macro_rules | `(tactic| simpa $[[$args,*]]? using $e) => `(tactic| simpa -implicitDefEqProofs $[[$args,*]]? using $e)
open TL PySem.StrLaws PySem.Builtin.Str
theorem zipD_selfN (xs : List D) : zipD xs xs = xs.map fun x => .tup [x, x] := by
  unfold zipD
  induction xs with
  | nil => rfl
  | cons x xs ih => simpa using ih
theorem blsOf_trueN : ∀ {α : Type} (xs : List α), blsOf (xs.map fun _ => D.bl true) = some (xs.map fun _ => true)
  | _, [] => rfl
  | _, x :: xs => by simp [blsOf, blsOf_trueN xs]
theorem d_read_machine (A : Cs) (ds : List D) (P : Pf) (h : W_read_machine A ds P) : w_read_machine A (endsOf [.F] ds P) (zr [.F] ds ++ List.replicate 6 none) := by
  obtain ⟨t, st, sg, rfl, ht, ⟨h1, h2⟩, h⟩ := h
  unfold w_read_machine
  have hf := ht.f
  have hlen := ht.len
  have hs : ∀ r ∈ t, r.length ≤ sg := fun r hr => by rw [(ht.row r hr).1]; exact Nat.le_refl _
  have htl := tabS_len hf hs
  have hm : t.length * (sg * 122 + 1) ≤ 20 * (20 * 122 + 1) := Nat.mul_le_mul (by omega) (by omega)
  have e1 : Txt.split (tabS t) (Str.ofString "\n") = t.map rowS := split_tab hf
  simp [e1]
  refine ⟨by omega, ?_⟩
  refine lc_mapA (xs := t) (f := D.str ∘ rowS) (G := fun r => .lst (r.map (D.str ∘ entS))) ?_ fun r hr acc ha => ?_
  · simp
    refine for_inv (fun i r => ∃ (x y z : Option D), r = [some (.F, .str (tabS t)), none, some (.F, .lst (t.map fun r => .lst (r.map (D.str ∘ entS)))), some (.L .F, .lst ((t.take i).map rowL)), fr x, fr y, fr z]) ⟨none, none, none, by simp [fr]⟩ ?_ ?_
    · rintro r ⟨x, y, z, rfl⟩
      simp [enumD_len]
      exact ⟨t, st, sg, A.C_Machine, rfl, ht, by simpa using h⟩
    · rintro i d r hd ⟨x, y, z, rfl⟩
      obtain ⟨q, hq, rfl⟩ := enumD_get hd
      simp at hq
      obtain ⟨row, hi, rfl⟩ := hq
      have hr : row ∈ t := List.mem_of_getElem? hi
      have hi2 := (List.getElem?_eq_some_iff.mp hi).1
      have r1 := (ht.row row hr).1
      obtain ⟨r0, h0⟩ : ∃ r0, t[0]? = some r0 := ⟨t[0]'(by omega), List.getElem?_eq_getElem (by omega)⟩
      have r2 := (ht.row r0 (List.mem_of_getElem? h0)).1
      have at0 : L2.atI (t.map fun r => D.lst (r.map (D.str ∘ entS))) 0 = some (.lst (r0.map (D.str ∘ entS))) := by
        rw [atI_of (by omega) (by simp; omega)]
        simp [h0]
      simp [at0]
      refine ⟨by omega, ?_⟩
      have ef := (hf.row row hr).2
      refine lc_mapA (xs := row) (f := D.str ∘ entS) (G := fun _ => .bl true) ?_ fun e he acc ha => ?_
      · rw [blsOf_trueN]
        have e9 : (row.all fun _ => true) = true := List.all_eq_true.mpr fun _ _ => rfl
        simp [e9]
        refine lc_mapA (xs := row) (f := D.str ∘ entS) (G := entD) ?_ fun e he acc ha => ?_
        · simp
          exact ⟨by omega, by rw [List.take_succ, List.getElem?_map, hi]; rfl⟩
        · simp
          refine ⟨e, rfl, ef e he, ?_⟩
          simp
          omega
      · simp
        refine ⟨entS e, rfl, by have := entS_len (ef e he); omega, ?_⟩
        rw [entB_ent (ef e he)]
        simp
        omega
  · have hrl := rowS_len (hf.row r hr).2
    have hr2 := hs r hr
    have e2 : Txt.split (rowS r) (Str.ofString " ") = r.map entS := split_row (hf.row r hr).1 (hf.row r hr).2
    simp [e2]
    have hm : r.length * 122 ≤ 20 * 122 := Nat.mul_le_mul_right _ (by omega)
    omega
theorem d__law_text (A : Cs) (ds : List D) (P : Pf) (h : W__law_text A ds P) : w__law_text A (endsOf [.F] ds P) (zr [.F] ds ++ List.replicate 4 none) := by
  obtain ⟨t, sg, rfl, ht, ⟨hl1, hl2⟩, hs, h⟩ := h
  unfold w__law_text
  simp [tabL]
  refine for_inv (fun i r => ∃ (x y z : Option D), r = [some (.F, tabL t), some (.L .F, .lst ((t.take i).map (D.str ∘ rowS))), fr x, fr y, fr z]) ⟨none, none, none, by simp [fr, tabL]⟩ ?_ ?_
  · rintro r ⟨x, y, z, rfl⟩
    simp [tabL]
    have hsum : ((t.map rowS).map (·.length)).sum ≤ t.length * (20 * 122) := by
      rw [List.map_map]
      exact sum_le fun r hr => Nat.le_trans (rowS_len (ht.row r hr).2) (Nat.mul_le_mul_right _ (Nat.le_trans (hs r hr) hl2))
    have hm : t.length * (20 * 122) ≤ 20 * (20 * 122) := Nat.mul_le_mul_right _ hl1
    have hn : (Str.ofString "\n").length = 1 := by decide +kernel
    have e0 : t.map (D.str ∘ rowS) = t.map fun x => D.str (rowS x) := rfl
    rw [e0, strsOf_map]
    simp only [optK_s]
    refine ⟨by rw [hn, List.length_map]; omega, ?_⟩
    exact h
  · rintro i d r hd ⟨x, y, z, rfl⟩
    simp at hd
    obtain ⟨row, hi, rfl⟩ := hd
    have hr : row ∈ t := List.mem_of_getElem? hi
    have hrl := hs row hr
    have hi2 := (List.getElem?_eq_some_iff.mp hi).1
    simp [rowL]
    refine lc_mapA (xs := row) (f := entD) (G := fun e => .str (entS e)) ?_ fun e he acc ha => ?_
    · have hsum : ((row.map entS).map (·.length)).sum ≤ row.length * 121 := by
        rw [List.map_map]
        exact sum_le fun e he => entS_len ((ht.row row hr).2 e he)
      have hm : row.length * 121 ≤ 20 * 121 := Nat.mul_le_mul_right _ (by omega)
      have hn : (Str.ofString " ").length = 1 := by decide +kernel
      simp
      rw [List.map_map] at hsum
      rw [hn]
      exact ⟨by omega, by omega, by rw [List.take_succ, List.getElem?_map, hi]; rfl⟩
    · have hf := (ht.row row hr).2 e he
      cases e with
      | none =>
        simp [entD]
        exact ⟨by omega, rfl⟩
      | some x =>
        obtain ⟨w, r, s⟩ := x
        obtain ⟨⟨a1, a2⟩, a3, a4⟩ := hf
        have l1 := strI_len60 a1 a2
        have l2 := strI_len60 a3 a4
        have l3 := wayS_len (r := r)
        simp [entD, l3, str_app, strI_r]
        exact ⟨log_ok a1 a2, by omega, log_ok a3 a4, by omega, by omega, rfl⟩
theorem blsOf_all {α : Type} {xs : List α} : (xs.all fun _ => true) = true := List.all_eq_true.mpr fun _ _ => rfl
theorem same_zipN {A : Cs} {n : Nat} {xs : List D} (hl : xs.length ≤ 90000) (hx : ∀ x ∈ xs, shN n x = true) {ρ : Rho} {Z : List D → Rho → Prop} {d1 d2 : D} (e : ρ = [some (.F, d1), some (.F, d2), none, none, none]) (hz : Z (xs.map fun _ => D.bl true) ρ) :
    lcK (zipD xs xs) (wgTup 2 (wgCons (wgN 3) (wgCons (wgN 4) wgNil))) wYes (wCall [Md.F, Md.F] (W__law_sameN A (n + 1)) [] (wCons (wVar 3) (wCons (wVar 4) wNil))) [3, 4] [] ρ Z := by
  subst e
  rw [zipD_selfN]
  refine lc_mapA (f := fun x => .tup [x, x]) (G := fun _ => .bl true) hz fun x hxm acc ha => ?_
  simp
  refine sameN_i (hx x hxm) ?_
  simp
  omega
theorem d__law_sameN (A : Cs) (n : Nat) (ds : List D) (P : Pf) (h : W__law_sameN A (n + 1) ds P) : w__law_sameN A n (endsOf [.F, .F] ds P) (zr [.F, .F] ds ++ List.replicate 3 none) := by
  obtain ⟨x, rfl, hx, h⟩ := h
  unfold w__law_sameN
  cases x with
  | non => simpa using h
  | int b => simpa using h
  | str b => simpa using h
  | lst b =>
    cases n with
    | zero => simp [shN] at hx
    | succ n =>
      simp [shN] at hx
      simp
      refine same_zipN hx.1 hx.2 rfl ?_
      rw [blsOf_trueN]
      simpa [blsOf_all] using h
  | tup b =>
    cases n with
    | zero => simp [shN] at hx
    | succ n =>
      simp [shN] at hx
      simp
      refine same_zipN hx.1 hx.2 rfl ?_
      rw [blsOf_trueN]
      simpa [blsOf_all] using h
  | _ => cases n <;> simp [shN] at hx
end My

/-! the readings by simp, over wishes that are told part by part: nothing is written twice -/
namespace VL
open PySem PySem.Spec PyProof.Rows L2
section
variable {ρ : Rho} {nE bE cE : Rho → Prop} {rE : Kd × D → Rho → Prop} {xE : Addr → List (Str × D) → Rho → Prop}
@[simp ↓ high] theorem wTryO_eq_mk {C : Addr} {b su : DS} : wTryO C b su ⟨nE, rE, bE, cE, xE⟩ ρ = b (⟨nE, rE, bE, cE, (fun C' fl ρ' => (C' = C ∧ fl = []) ∧ su (⟨nE, rE, bE, cE, (fun _ _ _ => False)⟩ : En) ρ')⟩ : En) ρ := wTryO_eq
@[simp ↓ high] theorem wLend_eq_mk {i : Nat} {we : DE (Kd × D)} {kP : List Nat → ((Kd × D)) → Rho → Prop} {xP : Addr → List (Str × D) → Rho → Prop} : wLend i we ρ ⟨kP, xP⟩ = lendK ρ i fun _ d => we (ρ.set i (some (.F, d))) ⟨fun p x ρ' => (p = [] ∧ noLK x = true ∧ ρ' = ρ.set i (some (.F, d))) ∧ kP [] x ρ, fun _ _ _ => False⟩ := wLend_eq
@[simp ↓ high] theorem wNilN_eq_mk {kP : List Nat → ((List (Kd × D))) → Rho → Prop} {xP : Addr → List (Str × D) → Rho → Prop} : wNilN ρ ⟨kP, xP⟩ = kP [] [] ρ := wNilN_eq
@[simp ↓ high] theorem wConsN_eq_mk {wa : DE (Kd × D)} {wr : DE (List (Kd × D))} {kP : List Nat → ((List (Kd × D))) → Rho → Prop} {xP : Addr → List (Str × D) → Rho → Prop} : wConsN wa wr ρ ⟨kP, xP⟩ = wa ρ ⟨fun p1 x ρ1 => wr ρ1 ⟨fun p2 xs ρ2 => isFN x.1 = true ∧ kP (p1 ++ p2) (x :: xs) ρ2, xP⟩, xP⟩ := wConsN_eq
@[simp ↓ high] theorem wTupO_eq_mk {wa : DE (List (Kd × D))} {kP : List Nat → ((Kd × D)) → Rho → Prop} {xP : Addr → List (Str × D) → Rho → Prop} : wTupO wa ρ ⟨kP, xP⟩ = wa ρ ⟨fun p xs ρ' => small xs.length = true ∧ kP p (.new (.T (xs.map fun x => mdN x.1)), .tup (xs.map (·.2))) ρ', xP⟩ := wTupO_eq
@[simp ↓ high] theorem wParO_eq_mk {i j : Nat} {wa : DE (List (Kd × D))} : wParO i j wa ⟨nE, rE, bE, cE, xE⟩ ρ = wa ρ ⟨fun _ xs ρ' => parO i j xs ρ' nE, xE⟩ := wParO_eq
@[simp ↓ high] theorem wRngL_eq_mk {wa : DE (List (Kd × D))} {kP : List Nat → ((List D)) → Rho → Prop} {xP : Addr → List (Str × D) → Rho → Prop} : wRngL wa ρ ⟨kP, xP⟩ = wa ρ ⟨fun p xs ρ' => rngL xs fun ds => kP p ds ρ', xP⟩ := wRngL_eq
@[simp ↓ high] theorem wJoin_eq_mk {a : Str} {we : DE (Kd × D)} {kP : List Nat → ((Kd × D)) → Rho → Prop} {xP : Addr → List (Str × D) → Rho → Prop} : wJoin a we ρ ⟨kP, xP⟩ = we ρ ⟨fun p y ρ' => lstK y fun ds => optK (strsOf ds) fun ys => (ys.map (·.length)).sum + ys.length * a.length ≤ 100000 ∧ kP p (.fz, .str (Txt.join a ys)) ρ', xP⟩ := wJoin_eq
@[simp ↓ high] theorem wTryT_eq_mk {C1 C2 : Addr} {i j : Nat} {z : Str} {b su : DS} : wTryT C1 C2 i j z b su ⟨nE, rE, bE, cE, xE⟩ ρ = b (⟨nE, rE, bE, cE, (fun C fl ρ' => fl = [] ∧ ((C = C1 ∧ su (⟨nE, rE, bE, cE, (fun _ _ _ => False)⟩ : En) ρ') ∨ (C = C2 ∧ ρ'[i]? = some none ∧ okSlot ρ' j = true ∧ nE (ρ'.set j (some (.F, .str z))))))⟩ : En) ρ := wTryT_eq
@[simp ↓ high] theorem wConsL_eq_mk {i : Nat} {r : DE (List (Kd × D))} {kP : List Nat → (List (Kd × D)) → Rho → Prop} {xP : Addr → List (Str × D) → Rho → Prop} : wConsL i r ρ ⟨kP, xP⟩ = (slotK ρ i (fun _ _ => True) ∧ r ρ ⟨fun p2 xs ρ2 => slotK ρ2 i fun m d => kP p2 ((kAt i [] m.st, d) :: xs) ρ2, xP⟩) := wConsL_eq
@[simp ↓ high] theorem wLendD_eq_mk {i : Nat} {we : DE (Kd × D)} {kP : List Nat → ((Kd × D)) → Rho → Prop} {xP : Addr → List (Str × D) → Rho → Prop} : wLendD i we ρ ⟨kP, xP⟩ = lendDK ρ i fun _ d => we (ρ.set i (some (.F, d))) ⟨fun p x ρ' => (p = [] ∧ noDK x = true ∧ ρ' = ρ.set i (some (.F, d))) ∧ kP [] x ρ, fun _ _ _ => False⟩ := wLendD_eq
@[simp ↓ high] theorem wDicN_eq_mk {kP : List Nat → (Kd × D) → Rho → Prop} {xP : Addr → List (Str × D) → Rho → Prop} : wDicN ρ ⟨kP, xP⟩ = kP [] (.new .N, .ndc []) ρ := wDicN_eq
@[simp ↓ high] theorem wSubN_eq_mk {wv wr wi : DE (Kd × D)} : wSubN wv wr wi ⟨nE, rE, bE, cE, xE⟩ ρ = wv ρ ⟨fun _ x ρ1 => x.1.frz.md = some .F ∧ wr ρ1 ⟨fun _ r ρ2 => wi ρ2 ⟨fun p3 y ρ3 => hold r.1 p3 = true ∧ subNK r (y.1.frz, y.2) x.2 fun i p d' => nE (setAt ρ3 i p d'), xE⟩, xE⟩, xE⟩ := wSubN_eq
@[simp ↓ high] theorem wItN_eq_mk {we : DE (Kd × D)} {kP : List Nat → (List D) → Rho → Prop} {xP : Addr → List (Str × D) → Rho → Prop} : wItN we ρ ⟨kP, xP⟩ = we ρ ⟨fun p x ρ' => itnK (x.1.frz, x.2) fun ds => kP p ds ρ', xP⟩ := wItN_eq
@[simp ↓ high] theorem wDispN_eq_mk {wk wv : DE (Kd × D)} {kP : List Nat → ((Kd × D)) → Rho → Prop} {xP : Addr → List (Str × D) → Rho → Prop} : wDispN wk wv ρ ⟨kP, xP⟩ = wk ρ ⟨fun p1 x ρ1 => wv ρ1 ⟨fun p2 y ρ2 => (hold x.1.frz p2 = true ∧ allFz [(x.1.frz, x.2), (y.1.frz, y.2)] = true) ∧ optK (keyN x.2) fun k => kP (p1 ++ p2) (.new .N, .ndc [(k, y.2)]) ρ2, xP⟩, xP⟩ := wDispN_eq
@[simp ↓ high] theorem wLcD_eq_mk {i : Nat} {j : Option Nat} {g : DG} {t : DE Bool} {we : DE (Kd × D)} {vs q : List Nat} {kP : List Nat → (Kd × D) → Rho → Prop} {xP : Addr → List (Str × D) → Rho → Prop} : wLcD i j g t we vs q ρ ⟨kP, xP⟩ = dctAt ρ i j fun ds => lcK ds g t we vs q (wipeR ρ vs) fun acc ρ2 => kP (vs ++ q) (.new (.L .F), .lst acc) ρ2 := wLcD_eq
@[simp ↓ high] theorem wRevRng_eq_mk {we : DE (Kd × D)} {kP : List Nat → (List D) → Rho → Prop} {xP : Addr → List (Str × D) → Rho → Prop} : wRevRng we ρ ⟨kP, xP⟩ = we ρ ⟨fun p x ρ' => revR x fun ds => kP p ds ρ', xP⟩ := wRevRng_eq
@[simp ↓ high] theorem wSlS_eq_mk {we : DE (Kd × D)} {wl wh ws : DE (Option Int)} {kP : List Nat → ((Kd × D)) → Rho → Prop} {xP : Addr → List (Str × D) → Rho → Prop} : wSlS we wl wh ws ρ ⟨kP, xP⟩ = we ρ ⟨fun p1 x ρ1 => wl ρ1 ⟨fun p2 lo ρ2 => wh ρ2 ⟨fun p3 hi ρ3 => ws ρ3 ⟨fun p4 st ρ4 => hold x.1 (p2 ++ (p3 ++ p4)) = true ∧ oSlS x lo hi st fun z => kP (p1 ++ (p2 ++ (p3 ++ p4))) z ρ4, xP⟩, xP⟩, xP⟩, xP⟩ := wSlS_eq
@[simp ↓ high] theorem wLstO_eq_mk {m : Md} {wa : DE (List (Kd × D))} {kP : List Nat → ((Kd × D)) → Rho → Prop} {xP : Addr → List (Str × D) → Rho → Prop} : wLstO m wa ρ ⟨kP, xP⟩ = wa ρ ⟨fun p xs ρ' => (allN m xs ∧ small xs.length = true) ∧ kP p (.new (.L m), .lst (xs.map (·.2))) ρ', xP⟩ := wLstO_eq
@[simp ↓ high] theorem wVar_eq_mk {i : Nat} {kP : List Nat → (Kd × D) → Rho → Prop} {xP : Addr → List (Str × D) → Rho → Prop} : wVar i ρ ⟨kP, xP⟩ = slotK ρ i fun m d => kP [] (kAt i [] m.st, d) ρ := wVar_eq
@[simp ↓ high] theorem wFrz_eq_mk {i : Nat} {kP : List Nat → (Kd × D) → Rho → Prop} {xP : Addr → List (Str × D) → Rho → Prop} : wFrz i ρ ⟨kP, xP⟩ = slotK ρ i fun m d => notP m = true ∧ stK i (.F, d) ρ fun ρ' => kP [i] (.fz, d) ρ' := wFrz_eq
@[simp ↓ high] theorem wMov_eq_mk {i : Nat} {kP : List Nat → (Kd × D) → Rho → Prop} {xP : Addr → List (Str × D) → Rho → Prop} : wMov i ρ ⟨kP, xP⟩ = slotK ρ i fun m d => notP m = true ∧ kP [i] (.new m, d) (ρ.set i none) := wMov_eq
@[simp ↓ high] theorem wC_eq_mk {d : D} {kP : List Nat → (Kd × D) → Rho → Prop} {xP : Addr → List (Str × D) → Rho → Prop} : wC d ρ ⟨kP, xP⟩ = kP [] (.fz, d) ρ := wC_eq
@[simp ↓ high] theorem wOp_eq_mk {o : O2} {a b : DE (Kd × D)} {kP : List Nat → (Kd × D) → Rho → Prop} {xP : Addr → List (Str × D) → Rho → Prop} : wOp o a b ρ ⟨kP, xP⟩ = a ρ ⟨fun p1 x ρ1 => b ρ1 ⟨fun p2 y ρ2 => hold x.1 p2 = true ∧ o x y fun z => kP (p1 ++ p2) z ρ2, xP⟩, xP⟩ := wOp_eq
@[simp ↓ high] theorem wUn_eq_mk {o : O1} {a : DE (Kd × D)} {kP : List Nat → (Kd × D) → Rho → Prop} {xP : Addr → List (Str × D) → Rho → Prop} : wUn o a ρ ⟨kP, xP⟩ = a ρ ⟨fun p1 x ρ1 => o x fun z => kP p1 z ρ1, xP⟩ := wUn_eq
@[simp ↓ high] theorem wCB_eq_mk {o : OL} {a : DE (List (Kd × D))} {kP : List Nat → (Kd × D) → Rho → Prop} {xP : Addr → List (Str × D) → Rho → Prop} : wCB o a ρ ⟨kP, xP⟩ = a ρ ⟨fun p1 x ρ1 => o x fun z => kP p1 z ρ1, xP⟩ := wCB_eq
@[simp ↓ high] theorem wFz_eq_mk {w : DE (Kd × D)} {kP : List Nat → (Kd × D) → Rho → Prop} {xP : Addr → List (Str × D) → Rho → Prop} : wFz w ρ ⟨kP, xP⟩ = w ρ ⟨fun p x ρ' => kP p (x.1.frz, x.2) ρ', xP⟩ := wFz_eq
@[simp ↓ high] theorem wNil_eq_mk {kP : List Nat → (List (Kd × D)) → Rho → Prop} {xP : Addr → List (Str × D) → Rho → Prop} : wNil ρ ⟨kP, xP⟩ = kP [] [] ρ := wNil_eq
@[simp ↓ high] theorem wCons_eq_mk {a : DE (Kd × D)} {r : DE (List (Kd × D))} {kP : List Nat → (List (Kd × D)) → Rho → Prop} {xP : Addr → List (Str × D) → Rho → Prop} : wCons a r ρ ⟨kP, xP⟩ = a ρ ⟨fun p1 x ρ1 => r ρ1 ⟨fun p2 xs ρ2 => hold x.1.frz p2 = true ∧ kP (p1 ++ p2) ((x.1.frz, x.2) :: xs) ρ2, xP⟩, xP⟩ := wCons_eq
@[simp ↓ high] theorem wTup_eq_mk {a : DE (List (Kd × D))} {kP : List Nat → (Kd × D) → Rho → Prop} {xP : Addr → List (Str × D) → Rho → Prop} : wTup a ρ ⟨kP, xP⟩ = a ρ ⟨fun p xs ρ' => (allFz xs = true ∧ small xs.length = true) ∧ kP p (.fz, .tup (xs.map (·.2))) ρ', xP⟩ := wTup_eq
@[simp ↓ high] theorem wLst_eq_mk {a : DE (List (Kd × D))} {kP : List Nat → (Kd × D) → Rho → Prop} {xP : Addr → List (Str × D) → Rho → Prop} : wLst a ρ ⟨kP, xP⟩ = a ρ ⟨fun p xs ρ' => (allFz xs = true ∧ small xs.length = true) ∧ kP p (.new (.L .F), .lst (xs.map (·.2))) ρ', xP⟩ := wLst_eq
@[simp ↓ high] theorem wDic_eq_mk {kP : List Nat → (Kd × D) → Rho → Prop} {xP : Addr → List (Str × D) → Rho → Prop} : wDic ρ ⟨kP, xP⟩ = kP [] (.new .K, .dct []) ρ := wDic_eq
@[simp ↓ high] theorem wT_eq_mk {w : DE (Kd × D)} {kP : List Nat → (Bool) → Rho → Prop} {xP : Addr → List (Str × D) → Rho → Prop} : wT w ρ ⟨kP, xP⟩ = w ρ ⟨fun p x ρ' => blK x.2 fun b => kP p b ρ', xP⟩ := wT_eq
@[simp ↓ high] theorem wAnd_eq_mk {a b : DE Bool} {kP : List Nat → (Bool) → Rho → Prop} {xP : Addr → List (Str × D) → Rho → Prop} : wAnd a b ρ ⟨kP, xP⟩ = a ρ ⟨fun p1 c ρ1 => ifK c (b ρ1 ⟨fun p2 c2 ρ2 => kP (p1 ++ p2) c2 ρ2, xP⟩) (kP p1 false ρ1), xP⟩ := wAnd_eq
@[simp ↓ high] theorem wOr_eq_mk {a b : DE Bool} {kP : List Nat → (Bool) → Rho → Prop} {xP : Addr → List (Str × D) → Rho → Prop} : wOr a b ρ ⟨kP, xP⟩ = a ρ ⟨fun p1 c ρ1 => ifK c (kP p1 true ρ1) (b ρ1 ⟨fun p2 c2 ρ2 => kP (p1 ++ p2) c2 ρ2, xP⟩), xP⟩ := wOr_eq
@[simp ↓ high] theorem wNot_eq_mk {a : DE Bool} {kP : List Nat → (Bool) → Rho → Prop} {xP : Addr → List (Str × D) → Rho → Prop} : wNot a ρ ⟨kP, xP⟩ = a ρ ⟨fun p1 c ρ1 => kP p1 (!c) ρ1, xP⟩ := wNot_eq
@[simp ↓ high] theorem wAndV_eq_mk {a b : DE (Kd × D)} {kP : List Nat → (Kd × D) → Rho → Prop} {xP : Addr → List (Str × D) → Rho → Prop} : wAndV a b ρ ⟨kP, xP⟩ = a ρ ⟨fun p1 x ρ1 => blK x.2 fun c => ifK c (b ρ1 ⟨fun p2 c2 ρ2 => kP (p1 ++ p2) c2 ρ2, xP⟩) (kP p1 (.fz, .bl false) ρ1), xP⟩ := wAndV_eq
@[simp ↓ high] theorem wOrV_eq_mk {a b : DE (Kd × D)} {kP : List Nat → (Kd × D) → Rho → Prop} {xP : Addr → List (Str × D) → Rho → Prop} : wOrV a b ρ ⟨kP, xP⟩ = a ρ ⟨fun p1 x ρ1 => blK x.2 fun c => ifK c (kP p1 (.fz, .bl true) ρ1) (b ρ1 ⟨fun p2 c2 ρ2 => kP (p1 ++ p2) c2 ρ2, xP⟩), xP⟩ := wOrV_eq
@[simp ↓ high] theorem wNotV_eq_mk {a : DE (Kd × D)} {kP : List Nat → (Kd × D) → Rho → Prop} {xP : Addr → List (Str × D) → Rho → Prop} : wNotV a ρ ⟨kP, xP⟩ = a ρ ⟨fun p1 x ρ1 => blK x.2 fun c => kP p1 (.fz, .bl (!c)) ρ1, xP⟩ := wNotV_eq
@[simp ↓ high] theorem wIf_eq_mk {t : DE Bool} {a b : DE (Kd × D)} {kP : List Nat → (Kd × D) → Rho → Prop} {xP : Addr → List (Str × D) → Rho → Prop} : wIf t a b ρ ⟨kP, xP⟩ = t ρ ⟨fun p1 c ρ1 => ifK c (a ρ1 ⟨fun p2 x ρ2 => kP (p1 ++ p2) x ρ2, xP⟩) (b ρ1 ⟨fun p2 x ρ2 => kP (p1 ++ p2) x ρ2, xP⟩), xP⟩ := wIf_eq
@[simp ↓ high] theorem wChain_eq_mk {o o' : O2} {a b c : DE (Kd × D)} {kP : List Nat → (Kd × D) → Rho → Prop} {xP : Addr → List (Str × D) → Rho → Prop} : wChain o o' a b c ρ ⟨kP, xP⟩ = a ρ ⟨fun p1 x ρ1 => b ρ1 ⟨fun p2 y ρ2 => hold x.1 p2 = true ∧ o x y fun z => blK z.2 fun t => ifK t (c ρ2 ⟨fun p3 u ρ3 => hold y.1 p3 = true ∧ o' y u fun z => kP (p1 ++ p2 ++ p3) z ρ3, xP⟩) (kP (p1 ++ p2) (.fz, .bl false) ρ2), xP⟩, xP⟩ := wChain_eq
@[simp ↓ high] theorem wYes_eq_mk {kP : List Nat → (Bool) → Rho → Prop} {xP : Addr → List (Str × D) → Rho → Prop} : wYes ρ ⟨kP, xP⟩ = kP [] true ρ := wYes_eq
@[simp ↓ high] theorem wNext_eq_mk : wNext ⟨nE, rE, bE, cE, xE⟩ ρ = nE ρ := wNext_eq
@[simp ↓ high] theorem wSeq_eq_mk {a b : DS} : wSeq a b ⟨nE, rE, bE, cE, xE⟩ ρ = a ⟨b ⟨nE, rE, bE, cE, xE⟩, rE, bE, cE, xE⟩ ρ := wSeq_eq
@[simp ↓ high] theorem wBreak_eq_mk : wBreak ⟨nE, rE, bE, cE, xE⟩ ρ = bE ρ := wBreak_eq
@[simp ↓ high] theorem wCont_eq_mk : wCont ⟨nE, rE, bE, cE, xE⟩ ρ = cE ρ := wCont_eq
@[simp ↓ high] theorem wDrop_eq_mk {we : DE (Kd × D)} : wDrop we ⟨nE, rE, bE, cE, xE⟩ ρ = we ρ ⟨fun _ _ ρ' => nE ρ', xE⟩ := wDrop_eq
@[simp ↓ high] theorem wRet_eq_mk {we : DE (Kd × D)} : wRet we ⟨nE, rE, bE, cE, xE⟩ ρ = we ρ ⟨fun _ x ρ' => rE x ρ', xE⟩ := wRet_eq
@[simp ↓ high] theorem wRetN_eq_mk : wRetN ⟨nE, rE, bE, cE, xE⟩ ρ = rE (.fz, .non) ρ := wRetN_eq
@[simp ↓ high] theorem wIfS_eq_mk {c : DE Bool} {a b : DS} : wIfS c a b ⟨nE, rE, bE, cE, xE⟩ ρ = c ρ ⟨fun _ k ρ' => ifK k (a ⟨nE, rE, bE, cE, xE⟩ ρ') (b ⟨nE, rE, bE, cE, xE⟩ ρ'), xE⟩ := wIfS_eq
@[simp ↓ high] theorem wNever_eq_mk : wNever ⟨nE, rE, bE, cE, xE⟩ ρ = False := wNever_eq
@[simp ↓ high] theorem wSet_eq_mk {i : Nat} {we : DE (Kd × D)} : wSet i we ⟨nE, rE, bE, cE, xE⟩ ρ = we ρ ⟨fun _ x ρ' => storeK i x ρ' nE, xE⟩ := wSet_eq
@[simp ↓ high] theorem wAug_eq_mk {i : Nat} {o : O2} {we : DE (Kd × D)} : wAug i o we ⟨nE, rE, bE, cE, xE⟩ ρ = wSet i (wOp o (wVar i) we) ⟨nE, rE, bE, cE, xE⟩ ρ := wAug_eq
@[simp ↓ high] theorem wAsg_eq_mk {we : DE (Kd × D)} {g : DG} : wAsg we g ⟨nE, rE, bE, cE, xE⟩ ρ = we ρ ⟨fun _ x ρ' => fzK (x.1.frz, x.2) fun d => g d ρ' nE, xE⟩ := wAsg_eq
@[simp ↓ high] theorem wSl_eq_mk {we : DE (Kd × D)} {wl wh : DE (Option Int)} {kP : List Nat → (Kd × D) → Rho → Prop} {xP : Addr → List (Str × D) → Rho → Prop} : wSl we wl wh ρ ⟨kP, xP⟩ = we ρ ⟨fun p1 x ρ1 => wl ρ1 ⟨fun p2 lo ρ2 => wh ρ2 ⟨fun p3 hi ρ3 => hold x.1 (p2 ++ p3) = true ∧ oSl x lo hi fun z => kP (p1 ++ (p2 ++ p3)) z ρ3, xP⟩, xP⟩, xP⟩ := wSl_eq
@[simp ↓ high] theorem wNo_eq_mk {kP : List Nat → (Option Int) → Rho → Prop} {xP : Addr → List (Str × D) → Rho → Prop} : wNo ρ ⟨kP, xP⟩ = kP [] none ρ := wNo_eq
@[simp ↓ high] theorem wSo_eq_mk {we : DE (Kd × D)} {kP : List Nat → (Option Int) → Rho → Prop} {xP : Addr → List (Str × D) → Rho → Prop} : wSo we ρ ⟨kP, xP⟩ = we ρ ⟨fun p x ρ' => intK1 x.2 fun i => kP p (some i) ρ', xP⟩ := wSo_eq
@[simp ↓ high] theorem wFld_eq_mk {C : Addr} {f : Str} {j : Nat} {we : DE (Kd × D)} {kP : List Nat → (Kd × D) → Rho → Prop} {xP : Addr → List (Str × D) → Rho → Prop} : wFld C f j we ρ ⟨kP, xP⟩ = we ρ ⟨fun p x ρ' => fldK C f j x fun z => kP p z ρ', xP⟩ := wFld_eq
@[simp ↓ high] theorem wPutF_eq_mk {i : Nat} {C : Addr} {f : Str} {j : Nat} {we : DE (Kd × D)} : wPutF i C f j we ⟨nE, rE, bE, cE, xE⟩ ρ = we ρ ⟨fun _ x ρ' => putFldK i C f j x ρ' nE, xE⟩ := wPutF_eq
@[simp ↓ high] theorem wMut_eq_mk {o : OM} {wr : DE (Kd × D)} {wa : DE (List (Kd × D))} {kP : List Nat → (Kd × D) → Rho → Prop} {xP : Addr → List (Str × D) → Rho → Prop} : wMut o wr wa ρ ⟨kP, xP⟩ = wr ρ ⟨fun p1 x ρ1 => isL x.2 = true ∧ wa ρ1 ⟨fun p2 es ρ2 => hold x.1 p2 = true ∧ mutK o x es fun i p d' z => kP (p1 ++ (p2 ++ [i])) (.fz, z) (setAt ρ2 i p d'), xP⟩, xP⟩ := wMut_eq
@[simp ↓ high] theorem wGet_eq_mk {wr : DE (Kd × D)} {wa : DE (List (Kd × D))} {kP : List Nat → (Kd × D) → Rho → Prop} {xP : Addr → List (Str × D) → Rho → Prop} : wGet wr wa ρ ⟨kP, xP⟩ = wr ρ ⟨fun p1 x ρ1 => isDct x.2 = true ∧ wa ρ1 ⟨fun p2 es ρ2 => hold x.1 p2 = true ∧ oGet x es fun z => kP (p1 ++ p2) z ρ2, xP⟩, xP⟩ := wGet_eq
@[simp ↓ high] theorem wPopD_eq_mk {wr : DE (Kd × D)} {wa : DE (List (Kd × D))} {kP : List Nat → (Kd × D) → Rho → Prop} {xP : Addr → List (Str × D) → Rho → Prop} : wPopD wr wa ρ ⟨kP, xP⟩ = wr ρ ⟨fun p1 x ρ1 => isDct x.2 = true ∧ wa ρ1 ⟨fun p2 es ρ2 => hold x.1 p2 = true ∧ dPopK x es (fun i p d' z => kP (p1 ++ (p2 ++ [i])) (.fz, z) (setAt ρ2 i p d')) (fun z => kP (p1 ++ p2) (.fz, z) ρ2), xP⟩, xP⟩ := wPopD_eq
@[simp ↓ high] theorem wSub_eq_mk {wv wr wi : DE (Kd × D)} : wSub wv wr wi ⟨nE, rE, bE, cE, xE⟩ ρ = wv ρ ⟨fun _ x ρ1 => x.1.frz.md = some .F ∧ wr ρ1 ⟨fun _ r ρ2 => wi ρ2 ⟨fun p3 y ρ3 => hold r.1 p3 = true ∧ subK r y x.2 fun i p d' => nE (setAt ρ3 i p d'), xE⟩, xE⟩, xE⟩ := wSub_eq
@[simp ↓ high] theorem wMeth_eq_mk {C : Addr} {m : Str} {ms : List Md} {Wf : DF} {dfl : List D} {wr : DE (Kd × D)} {wa : DE (List (Kd × D))} {kP : List Nat → (Kd × D) → Rho → Prop} {xP : Addr → List (Str × D) → Rho → Prop} : wMeth C m ms Wf dfl wr wa ρ ⟨kP, xP⟩ = wr ρ ⟨fun p1 x ρ1 => objOk C m x.2 ∧ wa ρ1 ⟨fun p2 xs ρ2 => hold x.1 p2 = true ∧ callK ms Wf (p1 ++ p2) (x :: (xs ++ dfl.map fun d => (.fz, d))) ρ2 ⟨kP, xP⟩, xP⟩, xP⟩ := wMeth_eq
@[simp ↓ high] theorem wCall_eq_mk {ms : List Md} {Wf : DF} {dfl : List D} {wa : DE (List (Kd × D))} {kP : List Nat → (Kd × D) → Rho → Prop} {xP : Addr → List (Str × D) → Rho → Prop} : wCall ms Wf dfl wa ρ ⟨kP, xP⟩ = wa ρ ⟨fun p xs ρ1 => callK ms Wf p (xs ++ dfl.map fun d => (.fz, d)) ρ1 ⟨kP, xP⟩, xP⟩ := wCall_eq
@[simp ↓ high] theorem wCallB_eq_mk {n : Nat} {Wf : DF} {dfl : List D} {wa : DE (List (Kd × D))} {kP : List Nat → (Kd × D) → Rho → Prop} {xP : Addr → List (Str × D) → Rho → Prop} : wCallB n Wf dfl wa ρ ⟨kP, xP⟩ = wa ρ ⟨fun p xs ρ1 => xs.length + dfl.length = n ∧ Wf (xs.map (·.2) ++ dfl) ⟨fun z _ => scD z.2 = true ∧ kP p (.fz, z.2) ρ1, fun C fl _ => fl = [] ∧ xP C [] ρ1⟩, xP⟩ := wCallB_eq
@[simp ↓ high] theorem wMake_eq_mk {C : Addr} {n : Nat} {fm : List Md} {Wf : DF} {dfl : List D} {wa : DE (List (Kd × D))} {kP : List Nat → (Kd × D) → Rho → Prop} {xP : Addr → List (Str × D) → Rho → Prop} : wMake C n fm Wf dfl wa ρ ⟨kP, xP⟩ = wa ρ ⟨fun p xs ρ1 => (allFz xs = true ∧ xs.length + dfl.length = n) ∧ Wf (.obj C [] :: (xs.map (·.2) ++ dfl)) ⟨fun z ds' => isN z.2 = true ∧ headK ds' fun d => kP p (.new (.O fm), d) ρ1, fun C fl _ => xP C fl ρ1⟩, xP⟩ := wMake_eq
@[simp ↓ high] theorem wIt_eq_mk {we : DE (Kd × D)} {kP : List Nat → (List D) → Rho → Prop} {xP : Addr → List (Str × D) → Rho → Prop} : wIt we ρ ⟨kP, xP⟩ = we ρ ⟨fun p x ρ' => seqK (x.1.frz, x.2) fun ds => kP p ds ρ', xP⟩ := wIt_eq
@[simp ↓ high] theorem wRev_eq_mk {we : DE (Kd × D)} {kP : List Nat → (List D) → Rho → Prop} {xP : Addr → List (Str × D) → Rho → Prop} : wRev we ρ ⟨kP, xP⟩ = we ρ ⟨fun p x ρ' => seqK (x.1.frz, x.2) fun ds => kP p ds.reverse ρ', xP⟩ := wRev_eq
@[simp ↓ high] theorem wRng1_eq_mk {wa : DE (List (Kd × D))} {kP : List Nat → (List D) → Rho → Prop} {xP : Addr → List (Str × D) → Rho → Prop} : wRng1 wa ρ ⟨kP, xP⟩ = wa ρ ⟨fun p xs ρ' => rng1 xs fun ds => kP p ds ρ', xP⟩ := wRng1_eq
@[simp ↓ high] theorem wRng2_eq_mk {wa : DE (List (Kd × D))} {kP : List Nat → (List D) → Rho → Prop} {xP : Addr → List (Str × D) → Rho → Prop} : wRng2 wa ρ ⟨kP, xP⟩ = wa ρ ⟨fun p xs ρ' => rng2 xs fun ds => kP p ds ρ', xP⟩ := wRng2_eq
@[simp ↓ high] theorem wEnum_eq_mk {wa : DE (List (Kd × D))} {kP : List Nat → (List D) → Rho → Prop} {xP : Addr → List (Str × D) → Rho → Prop} : wEnum wa ρ ⟨kP, xP⟩ = wa ρ ⟨fun p xs ρ' => isL1 xs fun ds => kP p (enumD ds) ρ', xP⟩ := wEnum_eq
@[simp ↓ high] theorem wZip_eq_mk {wa : DE (List (Kd × D))} {kP : List Nat → (List D) → Rho → Prop} {xP : Addr → List (Str × D) → Rho → Prop} : wZip wa ρ ⟨kP, xP⟩ = wa ρ ⟨fun p xs ρ' => isL2 xs fun ds es => kP p (zipD ds es) ρ', xP⟩ := wZip_eq
@[simp ↓ high] theorem wFor_eq_mk {w : DE (List D)} {g : DG} {b : DS} {ρ : Rho} : wFor w g b ⟨nE, rE, bE, cE, xE⟩ ρ = w ρ ⟨fun _ ds ρ1 => forK ds g b ⟨nE, rE, bE, cE, xE⟩ ρ1, xE⟩ := wFor_eq
@[simp ↓ high] theorem wIsi_eq'_mk {T : String} {we : DE (Kd × D)} {ρ : Rho} {kP : List Nat → ((Kd × D)) → Rho → Prop} {xP : Addr → List (Str × D) → Rho → Prop} : wIsi T we ρ ⟨kP, xP⟩ = we ρ ⟨fun p x ρ' => optK (tyN x.2) fun t => isiK t T fun b => kP p (.fz, .bl b) ρ', xP⟩ := wIsi_eq'
@[simp ↓ high] theorem wWhile_eq_mk {c : DE Bool} {b : DS} {ρ : Rho} : wWhile c b ⟨nE, rE, bE, cE, xE⟩ ρ = whileK c b ⟨nE, rE, bE, cE, xE⟩ ρ := wWhile_eq
@[simp ↓ high] theorem wLc_eq_mk {w : DE (List D)} {g : DG} {t : DE Bool} {we : DE (Kd × D)} {vs q : List Nat} {ρ : Rho} {kP : List Nat → ((Kd × D)) → Rho → Prop} {xP : Addr → List (Str × D) → Rho → Prop} : wLc w g t we vs q ρ ⟨kP, xP⟩ = w ρ ⟨fun p ds ρ1 => lcK ds g t we vs q (wipeR ρ1 vs) fun acc ρ2 => kP (p ++ (vs ++ q)) (.new (.L .F), .lst acc) ρ2, xP⟩ := wLc_eq
@[simp ↓ high] theorem wEmp_eq_mk {m : Md} {kP : List Nat → ((Kd × D)) → Rho → Prop} {xP : Addr → List (Str × D) → Rho → Prop} : wEmp m ρ ⟨kP, xP⟩ = kP [] (.new (.L m), .lst []) ρ := wEmp_eq
@[simp ↓ high] theorem wApp_eq_mk {wr we : DE (Kd × D)} {kP : List Nat → ((Kd × D)) → Rho → Prop} {xP : Addr → List (Str × D) → Rho → Prop} : wApp wr we ρ ⟨kP, xP⟩ = wr ρ ⟨fun p1 x ρ1 => isL x.2 = true ∧ we ρ1 ⟨fun p2 y ρ2 => hold x.1 p2 = true ∧ appK x y fun i p d' => kP (p1 ++ (p2 ++ [i])) (.fz, .non) (setAt ρ2 i p d'), xP⟩, xP⟩ := wApp_eq
@[simp ↓ high] theorem wPar_eq_mk {i j : Nat} {wa : DE (List (Kd × D))} : wPar i j wa ⟨nE, rE, bE, cE, xE⟩ ρ = wa ρ ⟨fun _ xs ρ' => par2 i j xs ρ' nE, xE⟩ := wPar_eq
@[simp ↓ high] theorem wEnumT_eq_mk {wa : DE (List (Kd × D))} {kP : List Nat → ((List D)) → Rho → Prop} {xP : Addr → List (Str × D) → Rho → Prop} : wEnumT wa ρ ⟨kP, xP⟩ = wa ρ ⟨fun p xs ρ' => isT1 xs fun ds => kP p (enumD ds) ρ', xP⟩ := wEnumT_eq
@[simp ↓ high] theorem wLcO_eq_mk {m : Md} {w : DE (List D)} {g : DG} {t : DE Bool} {we : DE (Kd × D)} {vs q : List Nat} {ρ : Rho} {kP : List Nat → ((Kd × D)) → Rho → Prop} {xP : Addr → List (Str × D) → Rho → Prop} : wLcO m w g t we vs q ρ ⟨kP, xP⟩ = w ρ ⟨fun p ds ρ1 => lcKO m ds g t we vs q (wipeR ρ1 vs) fun acc ρ2 => kP (p ++ (vs ++ q)) (.new (.L m), .lst acc) ρ2, xP⟩ := wLcO_eq
@[simp ↓ high] theorem wIsK_eq_mk {C : Addr} {b : Bool} {we : DE (Kd × D)} {kP : List Nat → ((Kd × D)) → Rho → Prop} {xP : Addr → List (Str × D) → Rho → Prop} : wIsK C b we ρ ⟨kP, xP⟩ = we ρ ⟨fun p x ρ' => x = (.fz, .exc C) ∧ kP p (.fz, .bl b) ρ', xP⟩ := wIsK_eq
@[simp ↓ high] theorem wRaise_eq_mk {C : Addr} : wRaise C ⟨nE, rE, bE, cE, xE⟩ ρ = xE C [] ρ := wRaise_eq
@[simp ↓ high] theorem wTryK_eq_mk {i j : Nat} {C : Addr} {b : DS} : wTryK i j C b ⟨nE, rE, bE, cE, xE⟩ ρ = b (⟨nE, rE, bE, cE, (fun C' fl ρ' => (C' = C ∧ fl = []) ∧ ρ'[i]? = some none ∧ okSlot ρ' j = true ∧ nE (ρ'.set j (some (.F, .exc C))))⟩ : En) ρ := wTryK_eq
@[simp ↓ high] theorem wZipM_eq_mk {wa : DE (List (Kd × D))} {kP : List Nat → (List D) → Rho → Prop} {xP : Addr → List (Str × D) → Rho → Prop} : wZipM wa ρ ⟨kP, xP⟩ = wa ρ ⟨fun p xs ρ' => isM2 xs fun ds es => kP p (zipD ds es) ρ', xP⟩ := wZipM_eq
end
end VL

namespace My
open PySem PySem.Spec PyProof.Rows L2 VL
/-! ### tokens and shapes as plain things -/
inductive Tok where
  | one (s : Int)
  | many (w : List Int) (x : Int)
deriving DecidableEq
structure Shp where
  q : Int
  r : Bool
  a : List Tok
  b : List Tok
deriving DecidableEq
def wordD (w : List Int) : D := .tup (w.map .int)
def tokD : Tok → D
  | .one s => .tup [.str "one", .int s]
  | .many w x => .tup [.str "many", wordD w, .int x]
def toksT (l : List Tok) : D := .tup (l.map tokD)
def shpD (s : Shp) : D := .tup [.int s.q, .str (wayS s.r), toksT s.a, toksT s.b]
def TokOk : Tok → Prop
  | .one s => 0 ≤ s
  | .many w x => w ≠ [] ∧ (∀ s ∈ w, 0 ≤ s) ∧ 0 ≤ x
structure ShpOk (s : Shp) : Prop where
  q : 0 ≤ s.q
  a : ∀ t ∈ s.a, TokOk t
  b : ∀ t ∈ s.b, TokOk t
def cntB : D → Bool
  | .int i => decide (0 ≤ i)
  | _ => false
def wordB : D → Bool
  | .tup ws => decide (0 < ws.length) && ws.all cntB
  | _ => false
def tokB : D → Bool
  | .tup [k, s] => isWord "one" k && cntB s
  | .tup [k, w, x] => !isWord "one" k && (isWord "many" k && (wordB w && cntB x))
  | _ => false
def tokOf : D → Tok
  | .tup [_, s] => .one (intOf s)
  | .tup [_, w, x] => .many (gramOf w) (intOf x)
  | _ => .one 0
def isFac (d : D) : Bool := match d with
  | .str s => decide (s = "l") || decide (s = "r")
  | _ => false
def facOf : D → Bool
  | .str s => decide (s = "r")
  | _ => false
def toksB (d : D) : Bool := isRow d && (rowsOf d).all tokB
def shapeB : D → Bool
  | .tup [q, f, l, r] => (cntB q && isFac f) && (toksB l && toksB r)
  | _ => false
def shapeOf : D → Shp
  | .tup [q, f, l, r] => ⟨intOf q, facOf f, (rowsOf l).map tokOf, (rowsOf r).map tokOf⟩
  | _ => ⟨0, false, [], []⟩
/-- the facing is asked for where the state is one -/
def facP : D → Bool
  | .tup [q, f, _, _] => !cntB q || scD f
  | _ => true
def W_is_count (A : Cs) : DF := fun ds P => ∃ d : D, ds = [d] ∧ plB d = true ∧ P.ok (.fz, .bl (cntB d)) ds
def W_is_word (A : Cs) : DF := fun ds P => ∃ (d : D) (n : Nat), ds = [d] ∧ ppK n d = true ∧ P.ok (.fz, .bl (wordB d)) ds
def W_is_token (A : Cs) : DF := fun ds P => ∃ (d : D) (n : Nat), ds = [d] ∧ n ≤ 40 ∧ ppK n d = true ∧ P.ok (.fz, .bl (tokB d)) ds
def W_tokens_kept (A : Cs) : DF := fun ds P => ∃ (d : D) (n : Nat), ds = [d] ∧ n ≤ 40 ∧ ppK n d = true ∧ ((toksB d = true ∧ P.ok (.fz, toksT ((rowsOf d).map tokOf)) ds) ∨ (toksB d = false ∧ P.ex A.C_NoShape [] ds))
def W_shape_kept (A : Cs) : DF := fun ds P => ∃ (d : D) (n : Nat), ds = [d] ∧ n ≤ 40 ∧ ppK n d = true ∧ facP d = true ∧ ((shapeB d = true ∧ P.ok (.fz, shpD (shapeOf d)) ds) ∨ (shapeB d = false ∧ P.ex A.C_NoShape [] ds))
/-! cells -/
def tokC (n : Int) : Tok → List Int
  | .one s => [s]
  | .many w x => (List.replicate (n + x).toNat w).flatten
def cellsT (l : List Tok) (n : Int) : List Int := (l.map (tokC n)).flatten
def marksL (k : Int) : List Int → Cells
  | [] => []
  | c :: cs => if c = 0 then marksL (k + 1) cs else (k, c) :: marksL (k + 1) cs
def placeS (s : Shp) : Int := if s.r then 0 else -1
def laidM (s : Shp) (n : Int) : Cells := marksL (-((cellsT s.a n).length : Int)) (cellsT s.a n ++ cellsT s.b n)
def laidD (s : Shp) (n : Int) : D := shotD s.q (placeS s) (laidM s n)
def SizeOk (s : Shp) (n : Int) : Prop := (cellsT s.a n).length + (cellsT s.b n).length ≤ 50000 ∧ (s.a.length ≤ 30000 ∧ s.b.length ≤ 30000) ∧ n ≤ 30000
/-- extras and words of tokens are not great -/
def TokS : Tok → Prop
  | .one _ => True
  | .many w x => w.length ≤ 30000 ∧ x ≤ 1000000000
def W_cells_of (A : Cs) : DF := fun ds P => ∃ (l : List Tok) (n : Int), ds = [toksT l, .int n] ∧ (∀ t ∈ l, TokOk t) ∧ 0 ≤ n ∧ l.length ≤ 30000 ∧ (cellsT l n).length ≤ 50000 ∧ P.ok (.new (.L .F), .lst ((cellsT l n).map .int)) ds
def W_laid_out (A : Cs) : DF := fun ds P => ∃ (d c : D) (n : Nat), ds = [d, c] ∧ n ≤ 40 ∧ ppK n d = true ∧ facP d = true ∧ plB c = true ∧
  ((shapeB d = false ∧ P.ex A.C_NoShape [] ds) ∨ (shapeB d = true ∧ cntB c = false ∧ P.ex A.C_NoShape [] ds) ∨ (shapeB d = true ∧ ∃ n : Int, c = .int n ∧ 0 ≤ n ∧ SizeOk (shapeOf d) n ∧ P.ok (.fz, laidD (shapeOf d) n) ds))
def tokR : Tok → Tok
  | .one s => .one s
  | .many w x => .many w (x + 1)
def shpR (s : Shp) : Shp := ⟨s.q, s.r, s.a.map tokR, s.b.map tokR⟩
def W_tokens_raised (A : Cs) : DF := fun ds P => ∃ l : List Tok, ds = [toksT l] ∧ l.length ≤ 30000 ∧ P.ok (.fz, toksT (l.map tokR)) ds
def W_raised (A : Cs) : DF := fun ds P => ∃ (d : D) (n : Nat), ds = [d] ∧ n ≤ 40 ∧ ppK n d = true ∧ facP d = true ∧ ((shapeB d = true ∧ P.ok (.fz, shpD (shpR (shapeOf d))) ds) ∨ (shapeB d = false ∧ P.ex A.C_NoShape [] ds))
/-! what is formed -/
section
variable {A : Cs} {P : Pf}
end
end My

namespace My
open PySem PySem.Spec PyProof.Rows L2 VL
def w_is_count (A : Cs) : DS :=
  wRet (wAndV (wIsi "int" (wVar 0)) (wAndV (wNotV (wIsi "bool" (wVar 0))) (wOp (oB0 fun i j => decide (j ≤ i)) (wVar 0) (wC (.int 0)))))

def w_is_word (A : Cs) : DS :=
  wRet (wAndV (wIsi "tuple" (wVar 0)) (wAndV (wOp (oB0 fun i j => decide (j < i)) (wCB oLen (wCons (wVar 0) (wNil))) (wC (.int 0))) (wCB oAll (wCons (wLc (wIt (wVar 0)) (wgN 1) (wYes) (wCall [.F] (W_is_count A) [] (wCons (wVar 1) (wNil))) [1] []) (wNil)))))

def w_is_token (A : Cs) : DS :=
  wSeq (wIfS (wOr (wNot (wT (wIsi "tuple" (wVar 0)))) (wT (wOp oEqX (wCB oLen (wCons (wVar 0) (wNil))) (wC (.int 0))))) (wRet (wC (.bl false))) (wNext)) <|
  wSeq (wIfS (wT (wOp oEqX (wOp oIx (wVar 0) (wC (.int 0))) (wC (.str "one")))) (wRet (wAndV (wOp oEqX (wCB oLen (wCons (wVar 0) (wNil))) (wC (.int 2))) (wCall [.F] (W_is_count A) [] (wCons (wOp oIx (wVar 0) (wC (.int 1))) (wNil))))) (wNext)) <|
  wSeq (wIfS (wT (wOp oEqX (wOp oIx (wVar 0) (wC (.int 0))) (wC (.str "many")))) (wRet (wAndV (wOp oEqX (wCB oLen (wCons (wVar 0) (wNil))) (wC (.int 3))) (wAndV (wCall [.F] (W_is_word A) [] (wCons (wOp oIx (wVar 0) (wC (.int 1))) (wNil))) (wCall [.F] (W_is_count A) [] (wCons (wOp oIx (wVar 0) (wC (.int 2))) (wNil)))))) (wNext)) <|
  wRet (wC (.bl false))

def w_tokens_kept (A : Cs) : DS :=
  wSeq (wIfS (wNot (wT (wIsi2 "list" "tuple" (wVar 0)))) (wRaise A.C_NoShape) (wNext)) <|
  wSeq (wFor (wIt (wVar 0)) (wgN 1) (wIfS (wNot (wT (wCall [.F] (W_is_token A) [] (wCons (wVar 1) (wNil))))) (wRaise A.C_NoShape) (wNext))) <|
  wRet (wCB oTuple (wCons (wVar 0) (wNil)))

def w_shape_kept (A : Cs) : DS :=
  wSeq (wIfS (wOr (wNot (wT (wIsi "tuple" (wVar 0)))) (wT (wOp oNe (wCB oLen (wCons (wVar 0) (wNil))) (wC (.int 4))))) (wRaise A.C_NoShape) (wNext)) <|
  wSeq (wAsg (wVar 0) (wgTup 4 (wgCons (wgN 1) (wgCons (wgN 2) (wgCons (wgN 3) (wgCons (wgN 4) (wgNil))))))) <|
  wSeq (wIfS (wOr (wNot (wT (wCall [.F] (W_is_count A) [] (wCons (wVar 1) (wNil))))) (wT (wOp oNotIn (wVar 2) (wTup (wCons (wC (.str "l")) (wCons (wC (.str "r")) (wNil))))))) (wRaise A.C_NoShape) (wNext)) <|
  wRet (wTup (wCons (wVar 1) (wCons (wVar 2) (wCons (wCall [.F] (W_tokens_kept A) [] (wCons (wVar 3) (wNil))) (wCons (wCall [.F] (W_tokens_kept A) [] (wCons (wVar 4) (wNil))) (wNil))))))

def w_cells_of (A : Cs) : DS :=
  wSeq (wSet 2 (wLst (wNil))) <|
  wSeq (wFor (wIt (wVar 0)) (wgN 3) (wIfS (wT (wOp oEq (wOp oIx (wVar 3) (wC (.int 0))) (wC (.str "one")))) (wDrop (wMut mApp (wVar 2) (wCons (wOp oIx (wVar 3) (wC (.int 1))) (wNil)))) (wDrop (wMut mExt (wVar 2) (wCons (wOp oMul (wCB oList (wCons (wOp oIx (wVar 3) (wC (.int 1))) (wNil))) (wOp oAdd (wVar 1) (wOp oIx (wVar 3) (wC (.int 2))))) (wNil)))))) <|
  wRet (wMov 2)

def w_laid_out (A : Cs) : DS :=
  wSeq (wAsg (wCall [.F] (W_shape_kept A) [] (wCons (wVar 0) (wNil))) (wgTup 4 (wgCons (wgN 2) (wgCons (wgN 3) (wgCons (wgN 4) (wgCons (wgN 5) (wgNil))))))) <|
  wSeq (wIfS (wNot (wT (wCall [.F] (W_is_count A) [] (wCons (wVar 1) (wNil))))) (wRaise A.C_NoShape) (wNext)) <|
  wSeq (wSet 6 (wFz (wCall [.F, .F] (W_cells_of A) [] (wCons (wVar 4) (wCons (wVar 1) (wNil)))))) <|
  wSeq (wSet 7 (wFz (wOp oAdd (wVar 6) (wCall [.F, .F] (W_cells_of A) [] (wCons (wVar 5) (wCons (wVar 1) (wNil))))))) <|
  wSeq (wSet 10 (wFz (wLc (wEnum (wCons (wVar 7) (wNil))) (wgTup 2 (wgCons (wgN 8) (wgCons (wgN 9) (wgNil)))) (wT (wOp oNe (wVar 9) (wC (.int 0)))) (wTup (wCons (wOp (oI0 fun i j => i - j) (wVar 8) (wCB oLen (wCons (wVar 6) (wNil)))) (wCons (wVar 9) (wNil)))) [8, 9] []))) <|
  wSeq (wSet 11 (wFz (wC (.int 0)))) <|
  wSeq (wIfS (wT (wOp oEq (wVar 3) (wC (.str "l")))) (wSet 11 (wFz (wUn oNeg (wC (.int 1))))) (wNext)) <|
  wRet (wTup (wCons (wVar 2) (wCons (wVar 11) (wCons (wCB oTuple (wCons (wVar 10) (wNil))) (wNil)))))

def w_tokens_raised (A : Cs) : DS :=
  wSeq (wSet 1 (wLst (wNil))) <|
  wSeq (wFor (wIt (wVar 0)) (wgN 2) (wIfS (wT (wOp oEq (wOp oIx (wVar 2) (wC (.int 0))) (wC (.str "many")))) (wDrop (wMut mApp (wVar 1) (wCons (wTup (wCons (wC (.str "many")) (wCons (wOp oIx (wVar 2) (wC (.int 1))) (wCons (wOp oAdd (wOp oIx (wVar 2) (wC (.int 2))) (wC (.int 1))) (wNil))))) (wNil)))) (wDrop (wMut mApp (wVar 1) (wCons (wVar 2) (wNil)))))) <|
  wRet (wCB oTuple (wCons (wVar 1) (wNil)))

def w_raised (A : Cs) : DS :=
  wSeq (wAsg (wCall [.F] (W_shape_kept A) [] (wCons (wVar 0) (wNil))) (wgTup 4 (wgCons (wgN 1) (wgCons (wgN 2) (wgCons (wgN 3) (wgCons (wgN 4) (wgNil))))))) <|
  wRet (wTup (wCons (wVar 1) (wCons (wVar 2) (wCons (wCall [.F] (W_tokens_raised A) [] (wCons (wVar 3) (wNil))) (wCons (wCall [.F] (W_tokens_raised A) [] (wCons (wVar 4) (wNil))) (wNil))))))

end My

namespace My
open PySem PySem.Spec PyProof.Rows L2 VL
theorem eqv_word {k : Str} {f : D} (h : scD f = true) : eqvD (.str k) f = isWord k f := by
  cases f with
  | str s =>
    simp [isWord, eqvD]
    rw [Bool.eq_iff_iff]
    simp
    exact eq_comm
  | bl b => cases b <;> rfl
  | _ => simp [scD] at h <;> rfl
theorem fac_word {f : D} : isFac f = (isWord "l" f || isWord "r" f) := by
  cases f with
  | str s => simp [isFac, isWord]
  | bl b => cases b <;> rfl
  | _ => rfl
end My

/-! calls: what is wanted behind a call is not looked into -/
namespace VL
open PySem PySem.Spec PyProof.Rows L2
section
variable {ρ : Rho} {kP : List Nat → Kd × D → Rho → Prop} {xP : Addr → List (Str × D) → Rho → Prop}
/-- what is tied to a thing of this kind is not looked into by simp -/
def Tie {α : Type} (_ : α) : Type := Unit
def callT (Wf : DF) (ds : List D) (P : Pf) (_ : Tie P) : Prop := Wf ds P
def mapT (xs : List (Kd × D)) (q : List D → Prop) (_ : Tie q) : Prop := q (xs.map (·.2))
abbrev callP (Wf : DF) (ds : List D) (P : Pf) : Prop := callT Wf ds P ()
abbrev mapK (xs : List (Kd × D)) (q : List D → Prop) : Prop := mapT xs q ()
@[simp ↓] theorem mapK_n {q : List D → Prop} : mapK [] q = q [] := rfl
@[simp ↓] theorem mapK_c {k : Kd} {d : D} {xs : List (Kd × D)} {q : List D → Prop} : mapK ((k, d) :: xs) q = mapK xs fun ds => q (d :: ds) := rfl
@[simp] theorem mapK_n' {q : List D → Prop} : mapK [] q = q [] := rfl
@[simp] theorem mapK_c' {k : Kd} {d : D} {xs : List (Kd × D)} {q : List D → Prop} : mapK ((k, d) :: xs) q = mapK xs fun ds => q (d :: ds) := rfl
@[simp ↓ 20000] theorem callK_mk {ms : List Md} {Wf : DF} {p : List Nat} {xs : List (Kd × D)} : callK ms Wf p xs ρ ⟨kP, xP⟩ = ((argsOk ms xs ∧ nodupB (borS xs) = true) ∧ mapK xs fun ds => callP Wf ds ⟨fun z ds' => kP (p ++ borS xs) z (putBack xs ds' ρ), fun C fl ds' => xP C fl (putBack xs ds' ρ)⟩) := rfl
@[simp ↓ 20000] theorem wCall_mk0 {ms : List Md} {Wf : DF} {wa : DE (List (Kd × D))} : wCall ms Wf [] wa ρ ⟨kP, xP⟩ = wa ρ ⟨fun p xs ρ1 => callK ms Wf p xs ρ1 ⟨kP, xP⟩, xP⟩ := by
  unfold wCall
  simp only [List.map_nil, List.append_nil]
@[simp ↓ 20000] theorem wCallB_mk0 {n : Nat} {Wf : DF} {wa : DE (List (Kd × D))} : wCallB n Wf [] wa ρ ⟨kP, xP⟩ = wa ρ ⟨fun p xs ρ1 => xs.length = n ∧ mapK xs fun ds => callP Wf ds ⟨fun z _ => scD z.2 = true ∧ kP p (.fz, z.2) ρ1, fun C fl _ => fl = [] ∧ xP C [] ρ1⟩, xP⟩ := by
  unfold wCallB mapK callP mapT callT
  simp only [List.append_nil, List.length_nil, Nat.add_zero]
@[simp ↓ 20000] theorem wMake_mk0 {C : Addr} {n : Nat} {fm : List Md} {Wf : DF} {wa : DE (List (Kd × D))} : wMake C n fm Wf [] wa ρ ⟨kP, xP⟩ = wa ρ ⟨fun p xs ρ1 => (allFz xs = true ∧ xs.length = n) ∧ mapK xs fun ds => callP Wf (.obj C [] :: ds) ⟨fun z ds' => isN z.2 = true ∧ headK ds' fun d => kP p (.new (.O fm), d) ρ1, fun C fl _ => xP C fl ρ1⟩, xP⟩ := by
  rw [wMake_eq]
  unfold mapK callP mapT callT
  simp only [List.append_nil, List.length_nil, Nat.add_zero]
end
end VL

/-! kept exceptions of one of two classes -/
namespace VL
open PySem PySem.Spec PyProof.Rows L2
section
variable {K : PySem.W.Frag} {W : WX} {G G' H H' H0 : Hp} {σ : L2.St} {ρ : Rho} {f f' : Own} {pin : Nat → Option V} {X : Cx} {S S0 S1 T T1 T2 U : Sta} {E : En} {Z : Ends}
/-- what an exception of one of two classes tells -/
def isK2T (C1 C2 : Addr) (b1 b2 : Bool) (x : Kd × D) (q : Bool → Prop) (_ : Tie q) : Prop := (x = (.fz, .exc C1) ∧ q b1) ∨ (x = (.fz, .exc C2) ∧ q b2)
def wIsK2 (C1 C2 : Addr) (b1 b2 : Bool) (we : DE (Kd × D)) : DE (Kd × D) := fun ρ P => we ρ ⟨fun p x ρ' => isK2T C1 C2 b1 b2 x (fun b => P.ok p (.fz, .bl b) ρ') (), P.ex⟩
@[simp ↓] theorem wIsK2_eq {C1 C2 : Addr} {b1 b2 : Bool} {we : DE (Kd × D)} {P : Po (Kd × D)} : wIsK2 C1 C2 b1 b2 we ρ P = we ρ ⟨fun p x ρ' => isK2T C1 C2 b1 b2 x (fun b => P.ok p (.fz, .bl b) ρ') (), P.ex⟩ := rfl
@[simp ↓ high] theorem wIsK2_eq_mk {C1 C2 : Addr} {b1 b2 : Bool} {we : DE (Kd × D)} {kP : List Nat → (Kd × D) → Rho → Prop} {xP : Addr → List (Str × D) → Rho → Prop} : wIsK2 C1 C2 b1 b2 we ρ ⟨kP, xP⟩ = we ρ ⟨fun p x ρ' => isK2T C1 C2 b1 b2 x (fun b => kP p (.fz, .bl b) ρ') (), xP⟩ := rfl
/-- try: b / except .. as e: y = e, for two classes -/
def wTryK2 (i j : Nat) (C1 C2 : Addr) (b : DS) : DS := fun E ρ => b { E with ex := fun C' fl ρ' => ((C' = C1 ∨ C' = C2) ∧ fl = []) ∧ ρ'[i]? = some none ∧ okSlot ρ' j = true ∧ E.nx (ρ'.set j (some (.F, .exc C'))) } ρ
@[simp ↓] theorem wTryK2_eq {i j : Nat} {C1 C2 : Addr} {b : DS} : wTryK2 i j C1 C2 b E ρ = b { E with ex := fun C' fl ρ' => ((C' = C1 ∨ C' = C2) ∧ fl = []) ∧ ρ'[i]? = some none ∧ okSlot ρ' j = true ∧ E.nx (ρ'.set j (some (.F, .exc C'))) } ρ := rfl
@[simp ↓ high] theorem wTryK2_eq_mk {i j : Nat} {C1 C2 : Addr} {b : DS} {nE : Rho → Prop} {rE : Kd × D → Rho → Prop} {bE cE : Rho → Prop} {xE : Addr → List (Str × D) → Rho → Prop} : wTryK2 i j C1 C2 b ⟨nE, rE, bE, cE, xE⟩ ρ = b (⟨nE, rE, bE, cE, (fun C' fl ρ' => ((C' = C1 ∨ C' = C2) ∧ fl = []) ∧ ρ'[i]? = some none ∧ okSlot ρ' j = true ∧ nE (ρ'.set j (some (.F, .exc C'))))⟩ : En) ρ := wTryK2_eq
end
end VL

/-! an exception out of a list comprehension -/
namespace VLW
open PySem PySem.Spec PyProof.Rows L2
section
variable {M : Model} {A : Around} {E : Value → Shared → Prop} {s : Shared} {env cenv : Env} {outer l : List Env} {L e : Addr} {base : Heap} {Z : Obj → Prop} {m : Str → Option Value}
/-- a frame notes an exception whose flight is not its own -/
theorem looks_any {fl : Value} {Q : Unit → Shared → Prop} (hZ : HandSPX.Steady Z) (hfr : A.frames = some (env :: outer)) (hf : env.frame = some L) (hkb : base.StaysIn s.heap) (hen : base.get? e = none) (hl : s.heap.FunFrames base (env :: outer)) (ht : HandSPX.TracedZ s.heap base e Z fl) (hne : (fl == rawInt L) = false)
    (hQ : ∀ h', HandSPX.HeldZ base (env :: outer) e Z L h' → s.heap.UpToSlots h' → Q () { s with heap := h' }) : wpAny M A (noteFrame (.ref e) env) Q E s := by
  obtain ⟨oe, vs, T, oT, ts, he, hz, hd, h1, hnT, hTe, hT, hdT, h3⟩ := ht
  unfold noteFrame
  simp only [hf]
  refine wpAny_bind (wpAny_field he hd h1 ?_)
  rw [if_pos (show (Value.ref T != Value.none) = true from by simp)]
  refine wpAny_bind (wpAny_field hT hdT h3 ?_)
  rw [if_neg (show ¬ ((fl == rawInt L) = true) from by rw [hne]; decide)]
  refine wpAny_bind (wpAny_setField hT hdT (Array.getElem?_eq_some_iff.mp h3).1 ?_)
  have other : ∀ b, b ≠ T → (s.heap.update T (Obj.mapFields (·.setIfInBounds 3 Value.none))).get? b = s.heap.get? b := fun b hb => Heap.get?_update_other _ _ (Ne.symm hb)
  have noRecord : ∀ b o, s.heap.get? b = some o → (∀ vs, o.data ≠ .fields vs) → b ≠ T := fun b o hb hnf q => by
    rw [q, hT] at hb; injection hb with hb; subst hb; exact hnf ts hdT
  refine HandSPX.wpAny_entryZ hZ hfr (hl.of_keeps fun b o hb hnf => ⟨o, (other b (noRecord b o hb hnf)).trans hb, rfl⟩) hf ((other e (Ne.symm hTe)).trans he)
    (fun b o hbo => (other b fun q => by rw [q, hnT] at hbo; cases hbo).trans (hkb b o hbo)) hen hd (Array.getElem?_eq_some_iff.mp h1).1 hz fun h' hN => ?_
  obtain ⟨x1, x2, x3, x4⟩ := hN
  exact hQ h' ⟨x1, hen, x2, x3⟩ fun b o hb hnf => x4 b o ((other b (noRecord b o hb hnf)).trans hb) hnf
theorem funFrames_less {h base' : Heap} (hb : ∀ b, base.get? b = none → base'.get? b = none) : ∀ {l : List Env}, h.FunFrames base l → h.FunFrames base' l
  | [], _ => trivial
  | _ :: _, ⟨hk, ⟨L, o, h1, h2, h3, h4⟩, hr⟩ => ⟨hk, ⟨L, o, h1, hb _ h2, h3, h4⟩, funFrames_less hb hr⟩
/-- held by the def's frame: its block is let go -/
theorem fails_held (hf : cenv.frame = some L) (hbC : base.get? cenv.locals = none) (hn : s.heap.Ns cenv.locals m) (hh : HandSPX.HeldZ base l e Z L s.heap)
    (hQ : ∀ h', HandSPX.HeldZ base l e Z L h' → (∀ b o, s.heap.get? b = some o → b ≠ cenv.locals → (∀ vs, o.data ≠ .fields vs) → ∃ sl, h'.get? b = some { o with slots := sl }) → E (.ref e) { s with heap := h' }) :
    CompFails M A E cenv (.ref e) s := by
  refine ⟨m, hn, fun h₂ m₂ hn₂ hs₂ => ?_⟩
  obtain ⟨b1, b0, f1, oe, vs, T, oT, ts, he, hz, hd, h1, hnT, hTe, hT, hdT, h3⟩ := hh
  obtain ⟨oC, es, ep, hoC, hdC, _⟩ := id hn
  have ne1 : e ≠ cenv.locals := fun q => by
    rw [q, hoC] at he
    cases he
    rw [hdC] at hd
    cases hd
  have ne2 : T ≠ cenv.locals := fun q => by
    rw [q, hoC] at hT
    cases hT
    rw [hdC] at hdT
    cases hdT
  have b2 : base.StaysIn h₂ := fun b o hb => (hs₂.2 b fun q => by rw [q, hbC] at hb; cases hb).trans (b1 b o hb)
  have f2 : h₂.FunFrames base l := Heap.FunFrames.sameBut hs₂ hn₂ f1
  have he2 : h₂.get? e = some oe := (hs₂.2 e ne1).trans he
  have t2 : HandSPX.HeldZ base l e Z L h₂ := ⟨b2, b0, f2, oe, vs, T, oT, ts, he2, hz, hd, h1, hnT, hTe, (hs₂.2 T ne2).trans hT, hdT, h3⟩
  unfold PySem.passOn
  refine wpAny_bind (wpAny_field (s := { s with heap := h₂ }) he2 hd h1 ?_)
  rw [if_neg (show ¬ ((Value.ref T == Value.none) = true) from by simp)]
  rw [hf]
  refine wpAny_bind (HandSPX.setFlight_onZ (s := { s with heap := h₂ }) t2 fun h₃ t3 k3 => ?_)
  refine wpAny_throw ?_
  exact hQ h₃ t3 fun b o hb hbL hnf => k3 b o ((hs₂.2 b hbL).trans hb) hnf
end
section
variable {X : Cx} {pins : List (Addr × Obj)} {σ : L2.St} {H : Hp} {s : Shared} {W : WX}
/-- the context of a block whose raises are let out -/
abbrev blkX (X : Cx) (s : Shared) (H : Hp) (scope : Scope) (ce : Env) (fp : List Addr) (pn : List (Addr × Obj)) : Cx :=
  (X.blk s H scope ce fp).tr pn (notedBy (model X.prog X.w) X.A ce (CompFails (model X.prog X.w) X.A X.xe ce))
theorem block_out {scope : Scope} {cl : List (Str × Addr)} {fp : List Addr} {pn : List (Addr × Obj)} (hs : X.stack = X.env :: X.outer) (hf : X.env.frame = some X.env.locals) (tk : Takes X W) (I3 : Inv X pins σ H s) (hfp : ∀ b ∈ fp, FpOk X pins H b) :
    Takes (blkX X s H scope (compEnvC scope cl s.heap.objs.size X.env) fp pn) (fun cls d _ H' => W cls d σ H') := by
  rintro u s' ⟨a, B, sI, pins', σb, H', cls, d, rfl, Ib, nb, up, sky, na, os, ag, hw⟩
  have hfr : X.A.frames = some (X.env :: X.outer) := by rw [I3.ok.frames, hs]
  have nC : H' s.heap.objs.size = none := Ib.free
  have fC : FpOk X pins H' s.heap.objs.size := I3.fpOk (Nat.le_refl _) nC
  obtain ⟨c0, c1, c2, c3, c4, c5⟩ := fC
  show wpAny _ X.A (noteFrame (.ref a) (compEnvC scope cl s.heap.objs.size X.env)) _ _ s'
  rw [noteFrame_env (cenv := compEnvC scope cl s.heap.objs.size X.env) (env := X.env) (Value.ref a) rfl]
  obtain ⟨mb, hmb, _⟩ := Ib.loc
  have hmb : sI.heap.Ns s.heap.objs.size mb := hmb
  have fin : ∀ h1, HandSPX.HeldZ B (X.env :: X.outer) a (Zc cls d) X.env.locals h1 → s'.heap.UpToSlots h1 → CompFails (model X.prog X.w) X.A X.xe (compEnvC scope cl s.heap.objs.size X.env) (.ref a) { s' with heap := h1 } := fun h1 hh up1 => by
    have less : ∀ b, B.get? b = none → (B.hide s.heap.objs.size).get? b = none := fun b hb => by
      cases q : (B.hide s.heap.objs.size).get? b with
      | none => rfl
      | some o => rw [Heap.of_hide q] at hb; cases hb
    obtain ⟨g1, g2, g3, oe, vs, T, oT, ts, he, hz, hd, e1, hnT, hTe, hT, hdT, e3⟩ := hh
    have hh' : HandSPX.HeldZ (B.hide s.heap.objs.size) (X.env :: X.outer) a (Zc cls d) X.env.locals h1 := ⟨fun b o hb => g1 b o (Heap.of_hide hb), less _ g2, funFrames_less less g3, oe, vs, T, oT, ts, he, hz, hd, e1, less _ hnT, hTe, hT, hdT, e3⟩
    have hn1 : h1.Ns s.heap.objs.size mb := (up.trans up1).ns hmb
    refine fails_held (s := { s' with heap := h1 }) (l := X.env :: X.outer) (L := X.env.locals) (base := B.hide s.heap.objs.size) hf (Heap.hide_self _ _) hn1 hh' fun h' hH' hk' => tk _ _ ?_
    have J0 : Inv X pins σ H' sI := I3.call' (ch := fp) Ib.os Ib.base Ib.hok Ib.bare fun b hb => ⟨(hfp b hb).2.2.2.1, (hfp b hb).2.1, (hfp b hb).2.2.2.2.1, (hfp b hb).2.2.2.2.2⟩
    have J : Inv X pins σ H' { sI with heap := sI.heap.hide s.heap.objs.size, toks := sI.toks } := J0.turned (t' := sI.toks) (fun b o hb e => (Heap.hide_ne _ hb).trans e) c0 c1 c3 c4 c5
    refine ⟨a, B.hide s.heap.objs.size, { sI with heap := sI.heap.hide s.heap.objs.size, toks := sI.toks }, pins, σ, H', cls, d, rfl, J, fun b o e hb => ?_, fun b o e hnf => ?_, .inr (.inr (by rw [hs]; exact hH')), na, os, ag, hw⟩
    · have hbC : b ≠ s.heap.objs.size := fun q => by
        subst q
        have e : (sI.heap.hide s.heap.objs.size).get? s.heap.objs.size = some o := e
        rw [Heap.hide_self] at e
        cases e
      exact (Heap.hide_ne _ hbC).trans (nb b o (Heap.of_hide e) hb)
    · have hbC : b ≠ s.heap.objs.size := fun q => by
        subst q
        have e : (sI.heap.hide s.heap.objs.size).get? s.heap.objs.size = some o := e
        rw [Heap.hide_self] at e
        cases e
      obtain ⟨sl, q⟩ := (up.trans up1) b o (Heap.of_hide e) hnf
      obtain ⟨sl2, q2⟩ := hk' b _ q hbC hnf
      exact ⟨sl2, q2⟩
  have sky' : Sky B (X.env :: X.outer) a (Zc cls d) s.heap.objs.size s'.heap := by rw [← hs]; exact sky
  rcases sky' with ⟨hB, hn, hl, oe, vs, he, hz, hd, h1⟩ | fl | hh
  · exact HandSPX.look_newZ Zc.steady hfr hl hf he hB hn hd h1 hz fin
  · exact HandSPX.looks_onZ Zc.steady hfr hf fl fin
  · obtain ⟨g1, g2, g3, g4⟩ := hh
    refine looks_any Zc.steady hfr hf g1 g2 g3 g4 ?_ fin
    have : s.heap.objs.size ≠ X.env.locals := c1
    simp [rawInt]
    omega
/-- [elt for target in iter if ..], what elt lets out goes on as the def's -/
def tLcX (wi : TI) (g : TG) (tt : TT) (te : WX → TE) (W : WX) (vs : List Nat) : TE := fun σ H Q => tLc wi g tt (te fun cls d _ H' => W cls d σ H') vs σ H Q
theorem pe_lcX {elt tg iter : Expr} {ifs : List Expr} {scope : Scope} {own : List (Str × Nat)} {pos : Pos} {wi : TI} {g : TG} {tt : TT} {te : WX → TE} (hst : X.stack = X.env :: X.outer) (hfr : X.env.frame = some X.env.locals) (tk : Takes X W)
    (hc : X.calm = true) (hN : X.N.Nodup) (hi : PI X tg iter wi) (ok : BlkOk X.N X.env.scope scope own)
    (hg : ∀ (s : Shared) (H : Hp) (C : Addr) (cl : List (Str × Addr)) (fp : List Addr), PG (X.blk s H scope (compEnvC scope cl C X.env) fp) tg g) (ht : ∀ (s : Shared) (H : Hp) (C : Addr) (cl : List (Str × Addr)) (fp : List Addr), PTs (X.blk s H scope (compEnvC scope cl C X.env) fp) ifs tt)
    (he : ∀ (W : WX) (s : Shared) (H : Hp) (C : Addr) (cl : List (Str × Addr)) (fp : List Addr) (pn : List (Addr × Obj)) (xe : Value → Shared → Prop), Takes ((X.blk s H scope (compEnvC scope cl C X.env) fp).tr pn xe) W → PE ((X.blk s H scope (compEnvC scope cl C X.env) fp).tr pn xe) elt (te W)) (hs : ∀ x, foldedSetIterable iter X.env x = pure x := by intro _; rfl) :
    PE X (.ListComp elt [⟨tg, iter, ifs, 0⟩] scope pos) (tLcX wi g tt te W (own.map (·.2))) := by
  refine ⟨fun pins s σ H Q I h => ?_⟩
  rw [eval_ListComp]
  have h : tLc wi g tt (te fun cls d _ H' => W cls d σ H') (own.map (·.2)) σ H Q := h
  generalize hteW : te (fun cls d _ H' => W cls d σ H') = teW at h
  have hfree : ∀ y ∈ scope.names, y.2 = .free → ∃ c, X.env.cells.lookup y.1 = some c := fun y hy e => by
    rcases ok.free y hy e with k | k
    · exact I.ok.has _ (.inl k)
    · exact I.ok.has _ (.inr k)
  refine comprehension_at (use := none) rfl hs (closure_ok hfree) ok.kind (fun y hy e => by rw [ok.uniq y hy, e])
    (thn (hi.run pins s σ H _ I h) fun xv s1 hx => thn hx fun itv s2 h2 => ?_)
  obtain ⟨it, fp, tn, J, H2, e, I2, T, st2, f2, q⟩ := h2
  subst e
  refine wpAny_newObj_type (newEnv_comp ?_) (by show 0 ≤ sizeLine; decide)
  generalize hD : s2.heap.objs.size = D
  have hDn : H2 D = none := I2.hok.fresh (Nat.le_of_eq hD)
  obtain ⟨W, ⟨m0, w0⟩, turn⟩ := q D hDn
  -- the new list
  generalize hs3 : ({ s2 with heap := s2.heap.push { cls := .type "list", data := .seq ([] : List Value).toArray } } : Shared) = s3
  have I3 : Inv X pins σ (upd H2 D (.lst [])) s3 := by
    rw [← hs3]
    refine I2.laid (t' := s2.toks) (fun b o e => Heap.get?_push_of_some _ e) (Nat.le_of_eq hD) ⟨Nat.zero_le _, [], 0, .nil, ?_⟩
    rw [← hD]
    exact Heap.get?_push_size _ rfl
  have h3 : s3.heap = s2.heap.push { cls := .type "list", data := .seq ([] : List Value).toArray } := by rw [← hs3]
  have sz : ∀ b ∈ fp, b < s2.heap.objs.size := fun b hb => by
    obtain ⟨o, e, _⟩ := T.obj _ _ st2 b hb
    exact Heap.lt_size e
  have f3 : ∀ b ∈ fp, FpOk X pins (upd H2 D (.lst [])) b ∧ b < s3.heap.objs.size := fun b hb => by
    have hlt := sz b hb
    refine ⟨⟨?_, (f2 b hb).2⟩, by rw [h3, Heap.size_push]; exact Nat.lt_succ_of_lt hlt⟩
    rw [upd_ne (by rw [← hD]; exact Nat.ne_of_lt hlt)]
    exact (f2 b hb).1
  have st3 : tn 0 s3.heap := T.keep _ _ _ st2 fun b _ o e => by rw [h3]; exact Heap.get?_push_of_some _ e
  have I4 := block_start I3 ok hN f3
  have pg := hg s3 (upd H2 D (.lst [])) s3.heap.objs.size (cellsFrom (s3.heap.objs.size + 1) scope.names (cloFrom X.env.cells scope.names [])) fp
  have pt := ht s3 (upd H2 D (.lst [])) s3.heap.objs.size (cellsFrom (s3.heap.objs.size + 1) scope.names (cloFrom X.env.cells scope.names [])) fp
  have pe := fun (pn : List (Addr × Obj)) => he _ s3 (upd H2 D (.lst [])) s3.heap.objs.size (cellsFrom (s3.heap.objs.size + 1) scope.names (cloFrom X.env.cells scope.names [])) fp pn _ (block_out (pn := pn) (cl := cellsFrom (s3.heap.objs.size + 1) scope.names (cloFrom X.env.cells scope.names [])) (scope := scope) hst hfr tk I3 fun b hb => (f3 b hb).1)
  rw [hteW] at pe
  show codeAny _ _ (.compStart (.ListComp elt [⟨tg, iter, ifs, 0⟩] scope pos) 0 (.ref it) (.ref D) (compEnvC scope (cellsFrom (s3.heap.objs.size + 1) scope.names (cloFrom X.env.cells scope.names [])) s3.heap.objs.size X.env)) (compEnds (model X.prog X.w) X.A X.xe none (EP X pins σ Q) (.ref D) (compEnvC scope (cellsFrom (s3.heap.objs.size + 1) scope.names (cloFrom X.env.cells scope.names [])) s3.heap.objs.size X.env)) { s3 with heap := pushCells (s3.heap.push { cls := .type "dict", data := .dict #[] }) scope.names }
  have nfp : ∀ b ∈ fp, (upd H2 D (.lst [])) b = none := fun b hb => (f3 b hb).1.1
  generalize hce : compEnvC scope (cellsFrom (s3.heap.objs.size + 1) scope.names (cloFrom X.env.cells scope.names [])) s3.heap.objs.size X.env = ce at I4 pg pt pe ⊢
  have cL : ce.locals = s3.heap.objs.size := by subst hce; rfl
  generalize hH3 : upd H2 D (.lst []) = H3 at I3 I4 pg pt pe w0 nfp f3
  generalize hs4 : ({ s3 with heap := pushCells (s3.heap.push { cls := .type "dict", data := .dict #[] }) scope.names } : Shared) = s4 at I4 ⊢
  have st4 : tn 0 s4.heap := T.keep _ _ _ st3 fun b _ o e => by rw [← hs4]; exact pushCells_keeps _ _ _ _ (Heap.get?_push_of_some _ e)
  have stat : ∀ {σ' : L2.St} {H' : Hp} {s' : Shared}, Inv (X.blk s3 H3 scope ce fp) [] σ' H' s' → (∀ b ∈ fp, H' b = none) → ∀ b ∈ fp, FpOk (X.blk s3 H3 scope ce fp) [] H' b := fun {σ' H' s'} I' hn b hb =>
    ⟨hn b hb, (I'.ok.exf b hb).1, I'.ok.exfs b hb, .inl hb, fun x c e => (I'.ok.exf b hb).2 x c e, fun p hp => absurd (show p ∈ ([] : List (Addr × Obj)) ++ [] from hp) (by simp)⟩
  have loop : codeAny (model X.prog X.w) X.A (.compLoop (.ListComp elt [⟨tg, iter, ifs, 0⟩] scope pos) 0 (.ref it) (.ref D) ce) (compEnds (model X.prog X.w) X.A X.xe none (EP X pins σ Q) (.ref D) ce) s4 := by
    refine compLoop_any (fun n s' => ∃ i H', Inv (X.blk s3 H3 scope ce fp) [] (wipe σ (own.map (·.2))) H' s' ∧ tn i s'.heap ∧ (∀ b ∈ fp, H' b = none) ∧ W i n H') ?_ m0 ⟨0, H3, I4, st4, nfp, w0⟩
    rintro n s5 ⟨i, H5, I5, st5, n5, w5⟩
    rcases turn i n H5 w5 with ⟨stop, qq⟩ | ⟨go, Nx, hNx, step⟩
    · have td := T.done (X.blk s3 H3 scope ce fp) rfl rfl rfl hc i [] s5 _ H5 (fun _ _ => False) I5 (stat I5 n5) st5 stop
      refine thnF td fun r s6 ⟨hr, I6⟩ => ?_
      subst hr
      -- back in the def's context
      have I7 : Inv X pins σ H5 s6 := I3.call' (ch := fp) I6.os I6.base I6.hok I6.bare fun b hb => ⟨(f3 b hb).1.2.2.2.1, (f3 b hb).1.2.1, (f3 b hb).1.2.2.2.2.1, (f3 b hb).1.2.2.2.2.2⟩
      have nC : H5 s3.heap.objs.size = none := by
        have z : H5 ce.locals = none := I6.free
        rw [cL] at z
        exact z
      obtain ⟨m, hn, _⟩ := I6.loc
      have hn : s6.heap.Ns ce.locals m := hn
      rw [cL] at hn
      have hn' : s6.heap.Ns ce.locals m := by rw [cL]; exact hn
      refine ⟨m, hn', fun h'' sb => ?_⟩
      rw [cL] at sb
      obtain ⟨f0, f1, f2, f3, f4, f5⟩ := I3.fpOk (Nat.le_refl _) nC
      exact ⟨.ref D, H5, I7.turned (t' := s6.toks) (fun b o hb e => (sb.2 b hb).trans e) f0 f1 f3 f4 f5, rfl, qq⟩
    · have ti := T.item (X.blk s3 H3 scope ce fp) rfl rfl rfl hc i [] s5 _ H5 (fun _ _ => False) I5 (stat I5 n5) st5 go
      refine thnF ti fun r s6 ⟨u, hr, h6⟩ => ?_
      subst hr
      refine thnF h6 fun _ s7 ⟨x, H7, I7, r7, y7, st7, n7⟩ => ?_
      have I7' := I7.pinned (stat I7 n7) (T.obj _ _ st7)
      refine thnF (pg.run _ s7 _ H7 x u _ I7' r7 (step x H7 y7)) fun _ s8 ⟨σ8, H8, I8, hw8, q8⟩ => ?_
      refine thnF (pt.run _ s8 σ8 H8 _ I8 q8) fun b s9 ⟨H9, I9, q9⟩ => ?_
      -- the turn's end
      have fin : ∀ {s' : Shared} {H' : Hp}, Inv (X.blk s3 H3 scope ce fp) ([] ++ pinsAt fp s7.heap) σ8 H' s' → Nx H' → ∃ m, m < n ∧ ∃ i H', Inv (X.blk s3 H3 scope ce fp) [] (wipe σ (own.map (·.2))) H' s' ∧ tn i s'.heap ∧ (∀ b ∈ fp, H' b = none) ∧ W i m H' := fun {s' H'} I' nx => by
        obtain ⟨m', hm, w'⟩ := hNx H' nx
        have pin' : ∀ b ∈ fp, ∀ o, s7.heap.get? b = some o → s'.heap.get? b = some o ∧ H' b = none := fun b hb o e =>
          let z := I'.pin (b, o) (List.mem_append_right _ (List.mem_append_right _ (mem_pinsAt hb e)))
          ⟨z.1, z.2.1⟩
        have hl : (wipe σ (own.map (·.2))).length = σ8.length := by rw [← hw8, wipe_length]
        refine ⟨m', hm, i + 1, H', (I'.unpinned (pins := [])).weak hl (fun j v e => ?_), T.keep _ _ _ st7 fun b hb o e => (pin' b hb o e).1, fun b hb => ?_, w'⟩
        · rw [← hw8] at e
          exact (wipe_some e).1
        · obtain ⟨o, e, _⟩ := T.obj _ _ st7 b hb
          exact (pin' b hb o e).2
      cases b with
      | false =>
        simp only [Bool.false_eq_true, if_false] at q9 ⊢
        exact fin I9 q9
      | true =>
        simp only [if_true] at q9 ⊢
        refine thn ((pe _).run [] s9 σ8 H9 _ (I9.toTry _) q9) fun z s10 ⟨yv, H10, I10, r10, acc, hD10, hz10, nx⟩ => ?_
        have I10 := I10.ofTry I9.ok
        exact app_ok (X := X.blk s3 H3 scope ce fp) I10 hD10 hz10 r10 fun s11 I11 => fin I11 nx
  exact codeAny_compStart_list loop (T.self X.A 0 _ _ _ st4 loop)
end
end VLW

/-! list comprehensions whose element may raise -/
namespace VL
open PySem PySem.Spec PyProof.Rows L2
section
variable {K : PySem.W.Frag} {W : WX} {G G' H H' : Hp} {σ : L2.St} {ρ : Rho} {f : Own} {pin : Nat → Option V} {S T U : Sta}
/-- one turn -/
def lcTurnX (g : DG) (t : DE Bool) (we : DE (Kd × D)) (vs q : List Nat) (d : D) (acc : List D) (ρ : Rho) (N : List D → Rho → Prop) (X : Addr → List (Str × D) → Rho → Prop) : Prop :=
  g d ρ fun ρ3 => t ρ3 ⟨fun p4 b ρ4 => subL p4 q = true ∧ match b with
    | true => wFz we ρ4 ⟨fun p5 x ρ5 => (subL p5 q = true ∧ allFz [x] = true ∧ small (acc.length + 1) = true) ∧ N (acc ++ [x.2]) (wipeR ρ5 vs), fun C fl ρ5 => X C fl (wipeR ρ5 vs)⟩
    | false => N acc (wipeR ρ4 vs), noEx⟩
def wLcX (w : DE (List D)) (g : DG) (t : DE Bool) (we : DE (Kd × D)) (vs q : List Nat) : DE (Kd × D) := fun ρ P => w ρ ⟨fun p ds ρ1 => ∃ I : Nat → List D → Rho → Prop, I 0 [] (wipeR ρ1 vs) ∧
  (∀ i d acc ρ2, ds[i]? = some d → I i acc ρ2 → lcTurnX g t we vs q d acc ρ2 (I (i + 1)) P.ex) ∧ (∀ acc ρ2, I ds.length acc ρ2 → P.ok (p ++ (vs ++ q)) (.new (.L .F), .lst acc) ρ2), P.ex⟩
theorem te_lcX {w : DE (List D)} {g : DG} {t : DE Bool} {we : DE (Kd × D)} {vs q : List Nat} {Q : VK} (h : te K W (wLcX w g t we vs q) σ H Q) :
    VLW.tLcX (ti K W w) (tg K vs g) (tt K (fun _ _ _ _ => False) t) (fun W => te K W we) W vs σ H Q := by
  obtain ⟨S, P, rfl, rfl, ok, w, k, ex⟩ := h
  unfold VLW.tLcX
  refine ⟨S, _, rfl, rfl, ok, w, fun p ds T e es okT tT pr J hJ Dn hD => ?_, ex⟩
  obtain ⟨I, i0, istep, iend⟩ := e
  -- the state at the block's start
  have okB : Sx K T.pin T.G T.H (wipe S.σ vs) (wipeR T.ρ vs) (wipeF T.f vs) := (Sx.wipe okT vs).slots (by rw [wipe_length, es]) fun i x hx => by
    rw [← es]
    exact wipe_ne fun z => wipeR_none z hx
  have hDf : ∀ a, Ow (wipeF T.f vs) a → Ow T.f a := fun a ⟨i, hi⟩ => ⟨i, wipeF_sub hi⟩
  have gD : T.G Dn = none := okT.ext.free hD
  have fD : ¬ Ow (wipeF T.f vs) Dn := fun z => okT.own (hDf Dn z) hD
  -- between two turns
  refine ⟨fun i n H => n + i = ds.length ∧ ∃ (U : Sta) (acc : List D) (va : List V), U.σ = wipe S.σ vs ∧ U.H = H ∧ U.ok K ∧ T.to U ∧ Tch (vs ++ q) T U ∧ H Dn = some (.lst va) ∧ DtA K U.G va acc ∧ U.G Dn = none ∧ ¬ Ow U.f Dn ∧ I i acc U.ρ ∧ (∀ v ∈ vs, ∀ x, U.ρ[v]? ≠ some (some x)), ⟨ds.length, rfl, ⟨T.pin, T.G, upd T.H Dn (.lst []), wipe S.σ vs, wipeR T.ρ vs, wipeF T.f vs⟩, [], [], rfl, rfl, okB.aside gD fD, ⟨⟨Ex.refl _, fun a o ha _ => ?_, fun _ _ _ => rfl, fun a ha => .inl (hDf a ha), fun a ha => ?_⟩, rfl⟩, fun j hj => ?_, upd_same, .nil, gD, fD, i0, fun v hv x => wipeR_none hv⟩, ?_⟩
  · show upd T.H Dn _ a = _
    rw [upd_ne (ne_of_none ha hD)]; exact ha
  · show upd T.H Dn _ a ≠ none
    by_cases c : a = Dn
    · subst c; rw [upd_same]; exact fun z => nomatch z
    · rw [upd_ne c]; exact ha
  · have hj1 : j ∉ vs := fun z => hj (List.mem_append_left _ z)
    exact ⟨wipeR_ne hj1, wipeF_ne hj1, fun a ha o ho => by
      show upd T.H Dn _ a = _
      rw [upd_ne (ne_of_none ho hD)]; exact ho⟩
  rintro i n _ ⟨hn, U, acc, va, hσ, rfl, okU, tU, chU, hva, dva, gU, fU, iU, nU⟩
  obtain ⟨h1, h2, h3⟩ := hJ U.G U.H tU.stp.gext okU.ext i
  by_cases c : i < ds.length
  · refine .inr ⟨h1 c, fun H' => ∃ (U : Sta) (acc : List D) (va : List V), U.σ = wipe S.σ vs ∧ U.H = H' ∧ U.ok K ∧ T.to U ∧ Tch (vs ++ q) T U ∧ H' Dn = some (.lst va) ∧ DtA K U.G va acc ∧ U.G Dn = none ∧ ¬ Ow U.f Dn ∧ I (i + 1) acc U.ρ ∧ (∀ v ∈ vs, ∀ x, U.ρ[v]? ≠ some (some x)), fun H' hV => ⟨n - 1, by omega, by omega, hV⟩, fun x H2 hy => ?_⟩
    have hd : ds[i]? = some ds[i] := List.getElem?_eq_getElem c
    obtain ⟨G2, gr, dx⟩ := h3 x H2 ds[i] hy hd
    have hDn : U.H Dn ≠ none := by rw [hva]; exact fun z => nomatch z
    have turn := istep i _ acc U.ρ hd iU
    refine ⟨U.at G2 H2, ds[i], _, hσ, rfl, Sta.grow okU gr, dx, turn, fun A eA okA tA chA hs hl => ?_⟩
    have hsA : wipe A.σ vs = wipe S.σ vs := by
      have h9 : wipe A.σ vs = wipe (wipe S.σ vs) vs := wipe_eq (fun j hj => by rw [← hσ]; exact hs j hj) (by rw [← hσ]; exact hl)
      rw [h9]
      exact wipe_eq (fun j hj => wipe_ne hj) (wipe_length _ _)
    refine ⟨hsA, A, _, rfl, rfl, okA, eA, fun p4 b B eB esB okB tB chB b' hb => ?_, fun _ _ _ z => z.elim⟩
    subst hb
    have tUA : U.to A := gr.to.trans tA
    have tUB : U.to B := tUA.trans tB
    have keepD : ∀ V : Sta, V.ok K → U.to V → V.H Dn = some (.lst va) ∧ V.G Dn = none ∧ ¬ Ow V.f Dn := fun V okV tV => ⟨tV.stp.keep Dn _ hva fU, by rw [tV.stp.gold Dn hDn fU]; exact gU, fun z => (tV.stp.fnew Dn z).elim fU hDn⟩
    have chUA : Tch vs U A := by
      have := gr.tch.trans chA
      exact this
    have outX : ∀ (C : Addr) (fl : List (Str × D)) (V : Sta), P.ex C fl (wipeR V.ρ vs) → V.σ = A.σ → V.ok K → U.to V → ∀ dd : Option Addr, XD K V.G V.H dd fl → W (.ref C) dd S.σ V.H := fun C fl V eV esV okV tUV dd hd => by
      refine ex C fl ⟨V.pin, V.G, V.H, S.σ, wipeR V.ρ vs, wipeF V.f vs⟩ eV rfl ?_ (tT.trans ⟨⟨(tU.trans tUV).stp.gext, (tU.trans tUV).stp.keep, (tU.trans tUV).stp.gold, fun a ⟨j, hj⟩ => (tU.trans tUV).stp.fnew a ⟨j, wipeF_sub hj⟩, (tU.trans tUV).stp.trk⟩, (tU.trans tUV).pin⟩) dd hd
      refine (Sx.wipe okV vs).slots ?_ fun i x hx => ?_
      · rw [esV, ← wipe_length S.σ vs, ← hsA, wipe_length]
      · have ni : i ∉ vs := fun z => wipeR_none z hx
        rw [esV, ← wipe_ne ni (σ := S.σ), ← hsA, wipe_ne ni]
    cases b' with
    | true =>
      rw [if_pos rfl, ← esB]
      refine te_fz ⟨B, _, rfl, rfl, okB, eB.2, fun p5 x V eV esV okV tV chV y hy => ?_, fun C fl V eV esV okV tV dd hd => outX C fl V eV (esV.trans esB) okV (tUB.trans tV) dd hd⟩
      obtain ⟨⟨s5, fz5, sz5⟩, eV⟩ := eV
      obtain ⟨k5, d5⟩ := x
      cases k5 with
      | bor i p m => cases fz5
      | new m => cases fz5
      | fz =>
        have tUV : U.to V := tUB.trans tV
        obtain ⟨q1, q2, q3⟩ := keepD V okV tUV
        refine ⟨va, q1, ?_, ?_⟩
        · have e9 : va.length = acc.length := dva.len
          rw [e9]
          exact Nat.lt_of_lt_of_le (Nat.lt_succ_self _) (small_sz sz5)
        refine ⟨⟨V.pin, V.G, upd V.H Dn (.lst (va ++ [y])), wipe S.σ vs, wipeR V.ρ vs, wipeF V.f vs⟩, acc ++ [d5], va ++ [y], rfl, rfl, ?_, ⟨⟨(tU.trans tUV).stp.gext, fun a o ha hf => ?_, (tU.trans tUV).stp.gold, fun a ⟨j, hj⟩ => (tU.trans tUV).stp.fnew a ⟨j, wipeF_sub hj⟩, fun a ha => ?_⟩, (tU.trans tUV).pin⟩, fun j hj => ?_, upd_same, (dva.mono tUV.stp.gext).append (.cons hy .nil), q2, fun ⟨j, hj⟩ => q3 ⟨j, wipeF_sub hj⟩, eV, fun v hv x => wipeR_none hv⟩
        · refine Sx.aside ((Sx.wipe okV vs).slots ?_ fun i x hx => ?_) q2 fun ⟨j, hj⟩ => q3 ⟨j, wipeF_sub hj⟩
          · rw [wipe_length, esV, esB, ← wipe_length A.σ vs, hsA, wipe_length]
          · have ni : i ∉ vs := fun z => wipeR_none z hx
            rw [← hsA, wipe_ne ni, esV, esB]
        · show upd V.H Dn _ a = _
          rw [upd_ne (ne_of_none ha hD)]
          exact (tU.trans tUV).stp.keep a o ha hf
        · show upd V.H Dn _ a ≠ none
          by_cases c : a = Dn
          · subst c; rw [upd_same]; exact fun z => nomatch z
          · rw [upd_ne c]; exact (tU.trans tUV).stp.trk a ha
        · have j1 : j ∉ vs := fun z => hj (List.mem_append_left _ z)
          have j2 : j ∉ q := fun z => hj (List.mem_append_right _ z)
          have c1 := chU j hj
          have c2 := chUA j j1
          have c3 := chB j fun z => j2 (subL_of eB.1 j z)
          have c4 := chV j fun z => j2 (subL_of s5 j z)
          refine ⟨?_, ?_, fun a ha o ho => ?_⟩
          · show (wipeR V.ρ vs)[j]? = _
            rw [wipeR_ne j1, c4.1, c3.1, c2.1, c1.1]
          · show wipeF V.f vs j = _
            rw [wipeF_ne j1, c4.2.1, c3.2.1, c2.2.1, c1.2.1]
          · show upd V.H Dn _ a = _
            rw [upd_ne (ne_of_none ho hD)]
            refine c4.2.2 a ?_ o (c3.2.2 a ?_ o (c2.2.2 a ?_ o (c1.2.2 a ha o ho)))
            · rw [c3.2.1, c2.2.1, c1.2.1]; exact ha
            · rw [c2.2.1, c1.2.1]; exact ha
            · rw [c1.2.1]; exact ha
    | false =>
      rw [if_neg Bool.false_ne_true]
      obtain ⟨q1, q2, q3⟩ := keepD B okB tUB
      refine ⟨⟨B.pin, B.G, B.H, wipe S.σ vs, wipeR B.ρ vs, wipeF B.f vs⟩, acc, va, rfl, rfl, ?_, ⟨⟨(tU.trans tUB).stp.gext, (tU.trans tUB).stp.keep, (tU.trans tUB).stp.gold, fun a ⟨j, hj⟩ => (tU.trans tUB).stp.fnew a ⟨j, wipeF_sub hj⟩, (tU.trans tUB).stp.trk⟩, (tU.trans tUB).pin⟩, fun j hj => ?_, q1, dva.mono tUB.stp.gext, q2, fun ⟨j, hj⟩ => q3 ⟨j, wipeF_sub hj⟩, eB.2, fun v hv x => wipeR_none hv⟩
      · refine (Sx.wipe okB vs).slots ?_ fun i x hx => ?_
        · rw [wipe_length, esB, ← wipe_length A.σ vs, hsA, wipe_length]
        · have ni : i ∉ vs := fun z => wipeR_none z hx
          rw [← hsA, wipe_ne ni, esB]
      · have j1 : j ∉ vs := fun z => hj (List.mem_append_left _ z)
        have j2 : j ∉ q := fun z => hj (List.mem_append_right _ z)
        have c1 := chU j hj
        have c2 := chUA j j1
        have c3 := chB j fun z => j2 (subL_of eB.1 j z)
        refine ⟨?_, ?_, fun a ha o ho => ?_⟩
        · show (wipeR B.ρ vs)[j]? = _
          rw [wipeR_ne j1, c3.1, c2.1, c1.1]
        · show wipeF B.f vs j = _
          rw [wipeF_ne j1, c3.2.1, c2.2.1, c1.2.1]
        · refine c3.2.2 a ?_ o (c2.2.2 a ?_ o (c1.2.2 a ha o ho))
          · rw [c2.2.1, c1.2.1]; exact ha
          · rw [c1.2.1]; exact ha
  · have hi : i = ds.length := by omega
    refine .inl ⟨h2 (by omega), ?_⟩
    have okE : Sx K U.pin U.G U.H S.σ U.ρ U.f := Sx.slots okU (by rw [hσ, wipe_length]) fun i x hx => by
      rw [hσ]
      exact (wipe_ne fun z => nU i z x hx).symm
    refine k _ _ ⟨U.pin, U.G, U.H, S.σ, U.ρ, U.f⟩ (iend acc U.ρ (by rw [← hi]; exact iU)) rfl okE ⟨(tT.trans tU).stp, (tT.trans tU).pin⟩ ?_ (.ref Dn) ⟨[Dn], .L hva (RA.of_dt dva), by simp, fun a ha => ?_⟩
    · exact fun j hj => (pr.trans chU) j hj
    · have e9 : a = Dn := by simpa using ha
      subst e9
      exact ⟨gU, fU, .inr (tT.stp.free hD)⟩
end
section
variable {X : Cx} {W : WX} {elt tg iter : Expr} {ifs : List Expr} {scope : Scope} {own : List (Str × Nat)} {pos : Pos} {wi : DE (List D)} {g : DG} {t : DE Bool} {we : DE (Kd × D)}
theorem q_lcX (q : List Nat) (tk : Takes X W) (hc : X.calm = true) (hN : X.N.Nodup) (hi : PI X tg iter (ti X.K W wi)) (ok : BlkOk X.N X.env.scope scope own)
    (hg : ∀ (s : Shared) (H : Hp) (C : Addr) (cl : List (Str × Addr)) (fp : List Addr), PG (X.blk s H scope (compEnvC scope cl C X.env) fp) tg (VL.tg X.K (own.map (·.2)) g)) (ht : ∀ (s : Shared) (H : Hp) (C : Addr) (cl : List (Str × Addr)) (fp : List Addr), PTs (X.blk s H scope (compEnvC scope cl C X.env) fp) ifs (tt X.K (fun _ _ _ _ => False) t))
    (he : ∀ (W : WX) (s : Shared) (H : Hp) (C : Addr) (cl : List (Str × Addr)) (fp : List Addr) (pn : List (Addr × Obj)) (xe : Value → Shared → Prop), Takes ((X.blk s H scope (compEnvC scope cl C X.env) fp).tr pn xe) W → PE ((X.blk s H scope (compEnvC scope cl C X.env) fp).tr pn xe) elt (te X.K W we))
    (hs : ∀ x, foldedSetIterable iter X.env x = pure x := by intro _; rfl) (hst : X.stack = X.env :: X.outer := by rfl) (hfr : X.env.frame = some X.env.locals := by rfl) :
    PE X (.ListComp elt [⟨tg, iter, ifs, 0⟩] scope pos) (te X.K W (wLcX wi g t we (own.map (·.2)) q)) := PE.imp (VLW.pe_lcX (te := fun W => te X.K W we) hst hfr tk hc hN hi ok hg ht he hs) fun _ _ _ h => te_lcX h
end
section
variable {ρ : Rho}
def lcKX (ds : List D) (g : DG) (t : DE Bool) (we : DE (Kd × D)) (vs q : List Nat) (ρ : Rho) (Z : List D → Rho → Prop) (X : Addr → List (Str × D) → Rho → Prop) : Prop := ∃ I : Nat → List D → Rho → Prop, I 0 [] ρ ∧
  (∀ i d acc ρ2, ds[i]? = some d → I i acc ρ2 → lcTurnX g t we vs q d acc ρ2 (I (i + 1)) X) ∧ (∀ acc ρ2, I ds.length acc ρ2 → Z acc ρ2)
@[simp ↓] theorem wLcX_eq {w : DE (List D)} {g : DG} {t : DE Bool} {we : DE (Kd × D)} {vs q : List Nat} {P : Po (Kd × D)} : wLcX w g t we vs q ρ P = w ρ ⟨fun p ds ρ1 => lcKX ds g t we vs q (wipeR ρ1 vs) (fun acc ρ2 => P.ok (p ++ (vs ++ q)) (.new (.L .F), .lst acc) ρ2) P.ex, P.ex⟩ := rfl
@[simp ↓ high] theorem wLcX_eq_mk {w : DE (List D)} {g : DG} {t : DE Bool} {we : DE (Kd × D)} {vs q : List Nat} {kP : List Nat → (Kd × D) → Rho → Prop} {xP : Addr → List (Str × D) → Rho → Prop} : wLcX w g t we vs q ρ ⟨kP, xP⟩ = w ρ ⟨fun p ds ρ1 => lcKX ds g t we vs q (wipeR ρ1 vs) (fun acc ρ2 => kP (p ++ (vs ++ q)) (.new (.L .F), .lst acc) ρ2) xP, xP⟩ := rfl
@[simp ↓] theorem lcTurnX_eq {g : DG} {t : DE Bool} {we : DE (Kd × D)} {vs q : List Nat} {d : D} {acc : List D} {N : List D → Rho → Prop} {X : Addr → List (Str × D) → Rho → Prop} : lcTurnX g t we vs q d acc ρ N X = g d ρ fun ρ3 => t ρ3 ⟨fun p4 b ρ4 => subL p4 q = true ∧ ifK b (we ρ4 ⟨fun p5 x ρ5 => (subL p5 q = true ∧ allFz [(x.1.frz, x.2)] = true ∧ small (acc.length + 1) = true) ∧ N (acc ++ [x.2]) (wipeR ρ5 vs), fun C fl ρ5 => X C fl (wipeR ρ5 vs)⟩) (N acc (wipeR ρ4 vs)), noEx⟩ := by
  unfold lcTurnX
  congr 1
  funext ρ3
  congr 2
  funext p b ρ4
  cases b <;> rfl
/-- each item's answer is G of it, or it raises -/
theorem lcX_map {α : Type} {xs : List α} {f G : α → D} {g : DG} {we : DE (Kd × D)} {vs q : List Nat} {Z : List D → Rho → Prop} {X : Addr → List (Str × D) → Rho → Prop} (good : α → Bool) (hz : xs.all good = true → Z (xs.map G) ρ)
    (h : ∀ x ∈ xs, ∀ acc : List D, acc.length < xs.length → lcTurnX g wYes we vs q (f x) acc ρ (fun acc' ρ' => good x = true ∧ acc' = acc ++ [G x] ∧ ρ' = ρ) X) : lcKX (xs.map f) g wYes we vs q ρ Z X := by
  refine ⟨fun i acc r => (xs.take i).all good = true ∧ acc = (xs.take i).map G ∧ r = ρ, ⟨by simp, by simp, rfl⟩, fun i d acc r hd hi => ?_, fun acc r hr => ?_⟩
  · obtain ⟨hg, rfl, rfl⟩ := hi
    rw [List.getElem?_map] at hd
    cases ex : xs[i]? with
    | none => rw [ex] at hd; cases hd
    | some x =>
      rw [ex] at hd
      cases hd
      have hlt := (List.getElem?_eq_some_iff.mp ex).1
      have e1 : (xs.take (i + 1)).all good = good x := by
        rw [List.take_add_one, ex, List.all_append, hg]
        simp
      have e2 : (xs.take (i + 1)).map G = (xs.take i).map G ++ [G x] := by
        rw [List.take_add_one, ex]
        simp
      have z := h x (List.mem_of_getElem? ex) ((xs.take i).map G) (by simp; omega)
      rw [← e1, ← e2] at z
      exact z
  · obtain ⟨hg, rfl, rfl⟩ := hr
    rw [List.length_map, List.take_length] at hg ⊢
    exact hz hg
end
end VL

namespace My1
open My
open PySem PySem.Spec PyProof.Rows L2 VL
local macro_rules | `(tactic| simp $[[$args,*]]? $[$loc]?) => `(tactic| simp -implicitDefEqProofs $[[$args,*]]? $[$loc]?)
local macro_rules | `(tactic| simpa $[[$args,*]]? using $e) => `(tactic| simpa -implicitDefEqProofs $[[$args,*]]? using $e)
/-! machines made of any plain things -/
def numB (d : D) (n : Int) : Bool := match d with
  | .int i => decide (0 ≤ i ∧ i < n)
  | _ => false
def entG (st sg : Int) (d : D) : Bool := match d with
  | .non => true
  | .tup [w, y, l] => numB w sg && (isFac y && numB l st)
  | _ => false
/-- plain enough to be asked whether it is an entry -/
def entP (d : D) : Bool := match d with
  | .tup [w, y, l] => plB w && (scD y && plB l)
  | d => plB d
def tabG (rows : List (List D)) : Bool := match rows with
  | [] => false
  | r :: _ => decide (0 < r.length) && rows.all fun x => decide (x.length = r.length) && x.all (entG rows.length r.length)
def TabP (rows : List (List D)) : Prop := rows.length ≤ 1000 ∧ ∀ r ∈ rows, r.length ≤ 1000 ∧ ∀ x ∈ r, entP x = true
def rowsD (b : Bool) (rows : List (List D)) : D := seqD b (rows.map (seqD b))
def machR (A : Cs) (rows : List (List D)) : D := .obj A.C_Machine [("table", .tup (rows.map .tup))]
def W_is_number (A : Cs) : DF := fun ds P => ∃ (d : D) (n : Int), ds = [d, .int n] ∧ plB d = true ∧ P.ok (.fz, .bl (numB d n)) ds
def W_entry_kept (A : Cs) : DF := fun ds P => ∃ (d : D) (st sg : Int), ds = [d, .int st, .int sg] ∧ entP d = true ∧ ((entG st sg d = true ∧ P.ok (.fz, d) ds) ∨ (entG st sg d = false ∧ P.ex A.C_NoMachine [] ds))
def W_Machine_init (A : Cs) : DF := fun ds P => ∃ (b : Bool) (rows : List (List D)), ds = [.obj A.C_Machine [], rowsD b rows] ∧ TabP rows ∧
  ((tabG rows = true ∧ P.ok (.fz, .non) [machR A rows, rowsD b rows]) ∨ (tabG rows = false ∧ ∀ o : D, P.ex A.C_NoMachine [] [o, rowsD b rows]))
end My1

namespace My1
open My
open PySem PySem.Spec PyProof.Rows L2 VL
local macro_rules | `(tactic| simp $[[$args,*]]? $[$loc]?) => `(tactic| simp -implicitDefEqProofs $[[$args,*]]? $[$loc]?)
local macro_rules | `(tactic| simpa $[[$args,*]]? using $e) => `(tactic| simpa -implicitDefEqProofs $[[$args,*]]? using $e)
open TL PySem.StrLaws PySem.Builtin.Str
/-! ### texts given by their pieces; what reading tells of them -/
def txtP (ps : List (List Str)) : Str := Txt.join ("\n" : Str) (ps.map (Txt.join (" " : Str)))
def gd (r : List Ent) : List Str := r.map entS
structure PcsOk (ps : List (List Str)) : Prop where
  ne : ps ≠ []
  n : ps.length ≤ 60
  row : ∀ r ∈ ps, r ≠ [] ∧ r.length ≤ 60 ∧ ∀ a ∈ r, 32 ∉ tl a ∧ 10 ∉ tl a ∧ a.length ≤ 300
theorem split_row {r : List Str} (h0 : r ≠ []) (h : ∀ a ∈ r, 32 ∉ tl a) : Txt.split (Txt.join (" " : Str) r) (" " : Str) = r :=
  split_join (s := 32) (S := []) (by decide +kernel) (by decide +kernel) h0 h
theorem row_free {r : List Str} (h : ∀ a ∈ r, 10 ∉ tl a) : 10 ∉ tl (Txt.join (" " : Str) r) := by
  intro hm
  rw [tl_joinT] at hm
  rcases mem_joinL hm with h1 | ⟨p, hp, h1⟩
  · revert h1; decide +kernel
  · obtain ⟨a, ha, rfl⟩ := List.mem_map.mp hp
    exact h a ha h1
theorem split_txt {ps : List (List Str)} (h : PcsOk ps) : Txt.split (txtP ps) ("\n" : Str) = ps.map (Txt.join (" " : Str)) :=
  split_join (s := 10) (S := []) (by decide +kernel) (by decide +kernel) (by simpa using h.ne) fun p hp => by
    obtain ⟨r, hr, rfl⟩ := List.mem_map.mp hp
    exact row_free fun a ha => ((h.row r hr).2.2 a ha).2.1
theorem row_len {r : List Str} (h1 : r.length ≤ 60) (h : ∀ a ∈ r, a.length ≤ 300) : (Txt.join (" " : Str) r).length ≤ 18060 := by
  rw [len_tl, tl_joinT]
  have := joinL_len (S := tl (" " : Str)) (ps := r.map tl)
  have e : ((r.map tl).map (·.length)).sum ≤ r.length * 300 := by
    rw [List.map_map]
    exact sum_le fun x hx => by
      have := h x hx
      rw [len_tl] at this
      exact this
  have e2 : (tl (" " : Str)).length = 1 := by decide +kernel
  rw [e2] at this
  simp only [List.length_map] at this
  omega
/-- sizes of a text to be read -/
def sizP (ps : List (List Str)) : Nat := ((ps.map (Txt.join (" " : Str))).map (·.length)).sum + ps.length
theorem txt_len {ps : List (List Str)} : (txtP ps).length ≤ sizP ps := by
  unfold txtP sizP
  rw [len_tl, tl_joinT]
  have := joinL_len (S := tl ("\n" : Str)) (ps := (ps.map (Txt.join (" " : Str))).map tl)
  have e2 : (tl ("\n" : Str)).length = 1 := by decide +kernel
  rw [e2] at this
  have e : (((ps.map (Txt.join (" " : Str))).map tl).map (·.length)) = (ps.map (Txt.join (" " : Str))).map (·.length) := by
    rw [List.map_map]
    exact List.map_congr_left fun x _ => (len_tl x).symm
  rw [e] at this
  simp only [List.length_map, Nat.mul_one] at this ⊢
  exact this
theorem tabS_P {t : Tab} : tabS t = txtP (t.map gd) := by
  unfold tabS txtP
  rw [List.map_map]
  rfl
def rwE (t : Tab) : List (List D) := t.map (·.map entD)
theorem tabL_rw {t : Tab} : tabL t = rowsD true (rwE t) := by
  simp [tabL, rowsD, rwE, rowL, seqD]
theorem entP_e {e : Ent} : entP (entD e) = true := by
  cases e with
  | none => rfl
  | some x => obtain ⟨w, r, s⟩ := x; simp [entD, entP, plB, scD]
theorem tabP_rw {t : Tab} (h : t.length ≤ 1000) (h2 : ∀ r ∈ t, r.length ≤ 1000) : TabP (rwE t) := by
  refine ⟨by simp [rwE]; omega, fun r hr => ?_⟩
  obtain ⟨x, hx, rfl⟩ := List.mem_map.mp hr
  refine ⟨by simpa using h2 x hx, fun y hy => ?_⟩
  obtain ⟨e, _, rfl⟩ := List.mem_map.mp hy
  exact entP_e
theorem entG_e {st sg : Nat} {e : Ent} (h : EntOk st sg e) : entG st sg (entD e) = true := by
  cases e with
  | none => rfl
  | some x =>
    obtain ⟨w, r, s⟩ := x
    obtain ⟨h1, h2⟩ := h
    have h3 : isFac (.str (wayS r)) = true := by cases r <;> simp [isFac, wayS]
    simp [entD, entG, numB, h3]
    omega
theorem tabG_rw {t : Tab} {st sg : Nat} (h : TabOk t st sg) : tabG (rwE t) = true := by
  cases t with
  | nil => have := h.len; have := h.1; simp at *; omega
  | cons r rs =>
    have h0 := (h.row r (by simp)).1
    have hg := h.sg0
    show (decide (0 < (r.map entD).length) && (((r :: rs).map (·.map entD)).all fun x => decide (x.length = (r.map entD).length) && x.all (entG ((r :: rs).map (·.map entD)).length (r.map entD).length))) = true
    have hl := h.len
    rw [List.length_map, List.length_map, hl, h0]
    simp only [Bool.and_eq_true, List.all_eq_true, decide_eq_true_eq]
    refine ⟨hg, fun x hx => ?_⟩
    obtain ⟨y, hy, rfl⟩ := List.mem_map.mp hx
    have hy2 := h.row y hy
    refine ⟨by simpa using hy2.1, fun z hz => ?_⟩
    obtain ⟨e, he, rfl⟩ := List.mem_map.mp hz
    exact entG_e (hy2.2 e he)
structure ReadOk (rows : Tab) (sg : Nat) (rest : List (List Str)) : Prop where
  pcs : PcsOk (rows.map gd ++ rest)
  siz : sizP (rows.map gd ++ rest) ≤ 80000
  row : ∀ r ∈ rows, r.length = sg ∧ ∀ e ∈ r, EntF e
/-- a row that is no row behind these -/
def badR (rows : Tab) (sg : Nat) (p : List Str) : Prop := (rows ≠ [] ∧ p.length ≠ sg) ∨ p.all entB = false
def Refuses (A : Cs) (a : Str) (C : Addr) (fl : List (Str × D)) : Prop := ∃ (rows : Tab) (sg : Nat) (rest : List (List Str)), a = txtP (rows.map gd ++ rest) ∧ ReadOk rows sg rest ∧
  ((rest = [] ∧ tabG (rwE rows) = false ∧ C = A.C_NoMachine ∧ fl = []) ∨ ∃ p r', rest = p :: r' ∧ badR rows sg p ∧ C = A.C_NoText ∧ fl = [(("line" : Str), D.int rows.length)])
structure ReadsTo (a : Str) (t : Tab) (st sg : Nat) : Prop where
  a : a = tabS t
  t : TabOk t st sg
  l : st ≤ 12 ∧ sg ≤ 8
theorem ent_free {e : Ent} (h : EntF e) : 32 ∉ tl (entS e) ∧ 10 ∉ tl (entS e) ∧ (entS e).length ≤ 300 := ⟨free_ent h (by decide), free_ent h (by decide), by have := entS_len h; omega⟩
theorem gd_len {r : List Ent} (h : ∀ e ∈ r, EntF e) : (Txt.join (" " : Str) (gd r)).length ≤ r.length * 122 := rowS_len h
theorem ReadsTo.ok {a : Str} {t : Tab} {st sg : Nat} (h : ReadsTo a t st sg) : a = txtP (t.map gd ++ []) ∧ ReadOk t sg [] := by
  have hf := h.t.f
  have hl := h.t.len
  have h1 := h.l
  refine ⟨by rw [h.a, tabS_P, List.append_nil], ⟨⟨by simpa using hf.ne, by simp; omega, fun r hr => ?_⟩, ?_, fun r hr => ⟨(h.t.row r hr).1, (hf.row r hr).2⟩⟩⟩
  · rw [List.append_nil] at hr
    obtain ⟨x, hx, rfl⟩ := List.mem_map.mp hr
    refine ⟨by simpa [gd] using (hf.row x hx).1, by have := (h.t.row x hx).1; simp [gd]; omega, fun a ha => ?_⟩
    obtain ⟨e, he, rfl⟩ := List.mem_map.mp ha
    exact ent_free ((hf.row x hx).2 e he)
  · rw [List.append_nil]
    unfold sizP
    have : (((t.map gd).map (Txt.join (" " : Str))).map (·.length)).sum ≤ t.length * (8 * 122) := by
      rw [List.map_map, List.map_map]
      exact sum_le fun r hr => Nat.le_trans (gd_len (hf.row r hr).2) (Nat.mul_le_mul_right _ (by have := (h.t.row r hr).1; omega))
    have hm : t.length * (8 * 122) ≤ 12 * (8 * 122) := Nat.mul_le_mul_right _ (by omega)
    rw [List.length_map]
    omega
/-! the last blank of a row -/
theorem joinL_snoc {S : List Nat} : ∀ {ps : List (List Nat)} {q : List Nat}, ps ≠ [] → joinL S (ps ++ [q]) = joinL S ps ++ (S ++ q)
  | [], _, h => absurd rfl h
  | [p], q, _ => rfl
  | p :: p2 :: r, q, _ => by
    have := joinL_snoc (S := S) (ps := p2 :: r) (q := q) (by simp)
    show p ++ (S ++ joinL S ((p2 :: r) ++ [q])) = (p ++ (S ++ joinL S (p2 :: r))) ++ (S ++ q)
    rw [this]
    simp
theorem join_snoc {y : Str} {ps : List Str} {q : Str} (h : ps ≠ []) : Txt.join y (ps ++ [q]) = Txt.join y ps ++ y ++ q := ext_tl (by
  rw [tl_append, tl_append, tl_joinT, tl_joinT, List.map_append, List.map_cons, List.map_nil, joinL_snoc (by simpa using h)]
  simp)
theorem join_one {y q : Str} : Txt.join y [q] = q := ext_tl (by rw [tl_joinT]; rfl)
def W_read_machine (A : Cs) : DF := fun ds P => ∃ a : Str, ds = [.str a] ∧ ((∃ (t : Tab) (st sg : Nat), ReadsTo a t st sg ∧ P.ok (.new (.O [.F]), machD A t) ds) ∨ ∃ C fl, Refuses A a C fl ∧ P.ex C fl ds)
end My1

/-! kept exceptions that have a dict: isinstance, their fields, try: y = (z, f(..)) except C as e: y = (z', e) -/
namespace VLX
open PySem PySem.Spec PyProof.Rows L2 PySem.W
section
variable {prog : Program} {w : World} {A : Around} {E : Value → Shared → Prop} {s : Shared} {K : Frag} {x D : Addr} {ox : Obj} {od : Option Obj}
/-- a data descriptor of the class goes ahead of the instance's dict -/
theorem desc_first {name : Str} {a g : Value} (hc : (clsIn K D).isSome = true) (ha : findIn K (.ref D) name = some (some a)) (hg : specialIn K a "__get__" = some (some g)) (ht : takesIn K a = some true) : findObj K D od name = some (.bind g a) := by
  obtain ⟨cd, hc⟩ := Option.isSome_iff_exists.mp hc
  unfold findObj
  rw [hc, Option.bind_some, ha, Option.bind_some]
  simp [hg, ht]
theorem class_asked {Q : Option Value → Shared → Prop} (C : ExcC K D) (X : K.In s.heap) (I : InstAt s.heap x ox D od) (h : Q (some (.ref D)) { s with toks := s.toks + 1 }) : wpAny (model prog w) A (getAttr? (.ref x) "__class__") Q E s := by
  have hf : findObj K D od "__class__" = some (.bind (.builtin "getset_descriptor.__get__") (.builtin "object.__class__")) := desc_first (by obtain ⟨cd, hc, _⟩ := any_some C.hd; rw [hc]; rfl) C.ha C.hn C.ht
  obtain ⟨hp, g, d, t, os⟩ := s
  have T0 := I.type (M := model prog w)
  have T1 := looks_findIn (M := model prog w) X C.hg
  have T2 := looks_findIn (M := model prog w) X C.hk
  have T3 := looks_find (M := model prog w) X I hf
  have isB : Looks (model prog w) hp (isInstance (.ref x) (.type "BaseException")) true := T0.andThen (looks_subIn X C.hs)
  have n2 : (Value.builtin "BaseException.__getattribute__" == Value.builtin "object.__getattribute__") = false := by decide +kernel
  have n1 : (onTheHeap (Value.ref D) && Value.builtin "BaseException.__getattribute__" == Value.builtin "object.__getattribute__") = false := by rw [n2]; rfl
  unfold getAttr? getAttrBy? getAttrBy
  refine wpAny_bind (wpAny_mkText (wpAny_bind (wpAny_attempt (wpAny_holding (wpAny_bind (T0.at (wpAny_bind (T1.at ?_))))))))
  show wpAny _ _ (if (onTheHeap (Value.ref D) && Value.builtin "BaseException.__getattribute__" == Value.builtin "object.__getattribute__") = true then _ else _) _ _ _
  rw [n1, if_neg Bool.false_ne_true]
  unfold getAttrByItsOwn hookBefore
  refine wpAny_bind ?_
  rw [if_pos (show onTheHeap (Value.ref D) = true from rfl)]
  refine T2.at (wpAny_bind (wpAny_attempt (wpAny_holding ?_)))
  unfold callGetattribute
  rw [if_neg (show ¬ ((false && onTheHeap (Value.builtin "BaseException.__getattribute__")) = true) from Bool.false_ne_true)]
  unfold boundAndCalled
  rw [PySem.F.excAttr_ValueError.ga.bind (.ref x)]
  refine wpAny_bind (wpAny_pure ?_)
  show wpAny _ _ (call (.builtin "BaseException.__getattribute__") [.ref x, .str "__class__" t]) _ _ _
  refine wpAny_call (codeAny_call_builtin PySem.F.excAttr_ValueError.ga.plain PySem.F.entry_bexc_ga ?_)
  refine @check_slot (model prog w) _ _ ⟨hp, g, d, t + 1, os⟩ "BaseException.__getattribute__" "BaseException" "__getattribute__" (.ref x) [.str "__class__" t] [] _ (by decide +kernel) (by decide +kernel) isB (PySem.F.args_bexc_ga (.ref x) (.str "__class__" t)) ?_
  unfold Builtin.«object.__getattribute__»
  refine wpAny_bind (wpAny_of_eq (a := ((Value.ref x : Value), [Value.str "__class__" t])) (by first | rfl | (simp only [slotArgs]; rfl)) ?_)
  refine wpAny_bind (wpAny_pure (wpAny_bind (T0.at (wpAny_bind (T3.at ?_)))))
  show wpAny _ _ (holding [Value.builtin "object.__class__"] (call (.builtin "getset_descriptor.__get__") [.builtin "object.__class__", .ref x, .ref D]) >>= ret) _ _ _
  refine wpAny_bind (wpAny_holding (wpAny_call (class_get (s := ⟨hp, g, d, t + 1, os⟩) (ox := ox) (od := od) X I C.hm ?_)))
  refine wpAny_pure ?_
  show wpAny _ _ (handedOut (.ref D)) _ _ _
  rw [handedOut_of (v := .ref D) rfl]
  first
    | exact wpAny_pure (wpAny_pure h)
    | exact wpAny_pure h
    | exact wpAny_pure (wpAny_bind (wpAny_pure (wpAny_pure h)))
theorem kitF (C : ExcC K D) : KitX K (.ref x) (.ref D) (fun h => InstAt h x ox D od) where
  ty := fun _ _ _ I => I.type
  it := fun _ _ X _ => by
    obtain ⟨cd, hc, _⟩ := any_some C.hd
    unfold clsIn at hc
    split at hc
    · rename_i ho
      intro A' Q' E' s' k q
      unfold isType loadHead
      exact wpAny_bind (wpAny_loadPart (k _ _ (X _ _ ho)) (wpAny_pure q))
    · cases hc
  ne := (PySem.W.handS_kitx_exc (x := x) (ox := ox) C.hg C.hk C.hs C.hd C.ha C.hn C.ht C.hm).ne
  ca := fun X I k => class_asked C X I k
end
/-- at a: a kept exception of the class D -/
def KExc (H : Hp) (a D : Addr) : Prop := H a = some (VL.ExK (.ref D) a) ∨ ∃ dd fs, H a = some (VL.ExF (.ref D) dd a) ∧ H dd = some (.xd fs)
theorem KExc.at {X : Cx} {pins : List (Addr × Obj)} {σ : L2.St} {H : Hp} {s : Shared} {a D : Addr} (I : Inv X pins σ H s) (h : KExc H a D) : ∃ oe od, InstAt s.heap a oe D od := by
  rcases h with h | ⟨dd, fs, h, h2⟩
  · obtain ⟨⟨oe, vs, hget, hz, hv⟩, _, _⟩ := I.hok a _ h
    refine ⟨oe, none, ?_⟩
    obtain ⟨oc, od, oda, osl⟩ := oe
    obtain ⟨h1, h2⟩ := hz
    dsimp only at h1 h2 hv
    subst h1 h2 hv
    exact ⟨hget, rfl, rfl, trivial⟩
  · obtain ⟨⟨oe, vs, hget, hz, hv⟩, _, _⟩ := I.hok a _ h
    obtain ⟨mA, hns, _⟩ := (show ObjOk X.prog X.w H s.heap dd (.xd fs) from I.hok dd _ h2)
    obtain ⟨od, hd, _⟩ := lookIn_ns hns
    exact ⟨oe, some od, hget, hz.1, by unfold PySem.W.notCls; rw [hv] <;> rfl, by rw [hz.2]; exact hd⟩
def rIsE (K : Frag) : List V → Hp → VK → Prop := fun xs H Q => ∃ (a D : Addr) (c : V) (cv : Value) (b : Bool), xs = [.ref a, c] ∧ KExc H a D ∧ ExcC K D ∧ (∀ u, RelV c u → u = cv) ∧ kitOne K (.ref D) cv = some b ∧ Q (.bl b) H
theorem call_isE {X : Cx} : CallR X (.builtin "isinstance") (rIsE X.K) := by
  intro pins s σ H xs us Q I r h
  obtain ⟨a, D, c, cv, b, rfl, hH, C, hcv, e, q⟩ := h
  cases r with
  | cons rx rr =>
    cases rr with
    | cons rt rr =>
      cases rr
      cases rx
      have ec := hcv _ rt
      subst ec
      obtain ⟨oe, od, J⟩ := hH.at I
      exact kia_one (kitF C) I.kIn J e (fun z => nomatch z) fun tk => ⟨.bl b, H, I.kept (t' := tk) fun _ _ z => z, rfl, q⟩
def rIsEM (K : Frag) : List V → Hp → VK → Prop := fun xs H Q => ∃ (a D tp : Addr) (cs : List V) (us : List Value) (b : Bool), xs = [.ref a, .ref tp] ∧ KExc H a D ∧ ExcC K D ∧ H tp = some (.tup cs) ∧ Paired ClsV cs us ∧ kitAny K (.ref D) us = some b ∧ Q (.bl b) H
theorem call_isEM {X : Cx} : CallR X (.builtin "isinstance") (rIsEM X.K) := by
  intro pins s σ H xs us Q I r h
  obtain ⟨a, D, tp, cs, ws, b, rfl, hH, C, hT, k, e, q⟩ := h
  cases r with
  | cons rx rr =>
    cases rr with
    | cons rt rr =>
      cases rr
      cases rx
      cases rt
      obtain ⟨oe, od, J⟩ := hH.at I
      obtain ⟨_, its, rv, o, h1, h2, n, h3⟩ := (show ObjOk X.prog X.w H s.heap tp (.tup cs) from I.hok tp _ hT)
      have e3 := ClsV.all k rv
      subst e3
      obtain ⟨oc, od, dt, sl⟩ := o
      simp only at h2 h3
      subst h2 h3
      exact kia_tup (kitF C) I.kIn J h1 e (fun z => nomatch z) fun tk => ⟨.bl b, H, I.kept (t' := tk) fun _ _ z => z, rfl, q⟩
/-- a kept exception's field -/
def tXk (K : Frag) (C : Addr) (f : Str) (te : TE) : TE := fun σ H Q => te σ H fun x H1 => ∃ (a dd : Addr) (fs : List (Str × V)) (v : V), x = .ref a ∧ H1 a = some (VL.ExF (.ref C) dd a) ∧ H1 dd = some (.xd fs) ∧ fs.lookup f = some v ∧ Q v H1
theorem pe_xk {X : Cx} {C : Addr} {e : Expr} {te : TE} {pos : Pos} {n : Str} (T : XfC X.K C) (hno : findIn X.K (.ref C) n = some none) (he : PE X e te) (hb : attributeBase e n X.env (eval e X.env) = eval e X.env := by rfl) :
    PE X (.Attribute e n pos) (tXk X.K C n te) := by
  refine ⟨fun pins s σ H Q I h => ?_⟩
  refine attr_of hb (thn (he.run pins s σ H _ I h) fun u s1 hh => ?_)
  obtain ⟨x, H1, I1, rx, a, dd, fs, v, rfl, hH, ea, l, q⟩ := hh
  obtain rfl : u = Value.ref a := rx
  obtain ⟨⟨oe, vs, ha, hz, hd⟩, _, _⟩ := I1.hok a _ hH
  have hx : ObjOk X.prog X.w H1 s1.heap dd (.xd fs) := I1.hok dd _ ea
  obtain ⟨mA, hns, hr⟩ := hx
  obtain ⟨od, ho, hl⟩ := lookIn_ns hns
  obtain ⟨u, hu, ru⟩ := RelO.some_of (v := v) (o := mA n) (by rw [← l]; exact hr n)
  have J : InstAt s1.heap a oe C (some od) := ⟨ha, hz.1, by unfold PySem.W.notCls; rw [hd] <;> rfl, by rw [hz.2]; exact ho⟩
  exact HandSPX.exc_get I1.kIn J T.ga T.gg T.exC (findObj_own T.hdC hno rfl (by rw [hl, hu])) (handed_of ru) ⟨v, H1, I1.tok _, ru, q⟩
end VLX
namespace VL
open PySem PySem.Spec PyProof.Rows L2
section
variable {K : PySem.W.Frag} {W : WX} {G G' H H' H0 : Hp} {σ : L2.St} {ρ : Rho} {f f' : Own} {pin : Nat → Option V} {X : Cx} {S S0 S1 T T1 T2 U : Sta} {E : En} {Z : Ends}
/-- what a kept exception of C1, with fields, or of C2, without, tells -/
def isET (C1 C2 : Addr) (b1 b2 : Bool) (x : Kd × D) (q : Bool → Prop) (_ : Tie q) : Prop := (∃ fl, x = (.fz, .exf C1 fl) ∧ q b1) ∨ (x = (.fz, .exc C2) ∧ q b2)
theorem eta {C1 C2 : Addr} {b1 b2 : Bool} {fl : List (Str × D)} {q : Bool → Prop} (h : q b1) : isET C1 C2 b1 b2 (.fz, .exf C1 fl) q () := .inl ⟨fl, rfl, h⟩
theorem etb {C1 C2 : Addr} {b1 b2 : Bool} {q : Bool → Prop} (h : q b2) : isET C1 C2 b1 b2 (.fz, .exc C2) q () := .inr ⟨rfl, h⟩
def wIsE (C1 C2 : Addr) (b1 b2 : Bool) (we : DE (Kd × D)) : DE (Kd × D) := fun ρ P => we ρ ⟨fun p x ρ' => isET C1 C2 b1 b2 x (fun b => P.ok p (.fz, .bl b) ρ') (), P.ex⟩
@[simp ↓] theorem wIsE_eq {C1 C2 : Addr} {b1 b2 : Bool} {we : DE (Kd × D)} {P : Po (Kd × D)} : wIsE C1 C2 b1 b2 we ρ P = we ρ ⟨fun p x ρ' => isET C1 C2 b1 b2 x (fun b => P.ok p (.fz, .bl b) ρ') (), P.ex⟩ := rfl
theorem exf_at {v : V} {C : Addr} {fl : List (Str × D)} (h : Dt K G v (.exf C fl)) (e : Ex G H) : ∃ a, v = .ref a ∧ VLX.KExc H a C := by
  cases h with
  | exf hG h2 h3 => exact ⟨_, rfl, .inr ⟨_, _, e _ _ hG, e _ _ h2⟩⟩
theorem exc_at {v : V} {C : Addr} (h : Dt K G v (.exc C)) (e : Ex G H) : ∃ a, v = .ref a ∧ VLX.KExc H a C := by
  cases h with
  | exc hG => exact ⟨_, rfl, .inl (e _ _ hG)⟩
theorem te_isE {C1 C2 : Addr} {b1 b2 : Bool} {c : V} {cv : Value} {we : DE (Kd × D)} {Q : VK} (h1 : ExcC K C1) (h2 : ExcC K C2) (hc : ∀ u, RelV c u → u = cv) (k1 : PySem.W.kitOne K (.ref C1) cv = some b1) (k2 : PySem.W.kitOne K (.ref C2) cv = some b2) (h : te K W (wIsE C1 C2 b1 b2 we) σ H Q) :
    tCB (VLX.rIsE K) (tCons (te K W we) (tCons (tC c) tNil)) σ H Q := by
  obtain ⟨S, P, rfl, rfl, ok, w, k, ex⟩ := h
  refine ⟨S, _, rfl, rfl, ok, w, fun p x T' e es okT t tc v hv => ?_, ex⟩
  rcases e with ⟨fl, rfl, q⟩ | ⟨rfl, q⟩
  · obtain ⟨a, rfl, hk⟩ := exf_at (show Dt K T'.G v (.exf C1 fl) from hv) okT.ext
    exact ⟨a, C1, c, cv, b1, rfl, hk, h1, hc, k1, k _ _ T' q es okT t tc _ (.bl _)⟩
  · obtain ⟨a, rfl, hk⟩ := exc_at (show Dt K T'.G v (.exc C2) from hv) okT.ext
    exact ⟨a, C2, c, cv, b2, rfl, hk, h2, hc, k2, k _ _ T' q es okT t tc _ (.bl _)⟩
theorem q_isE {C1 C2 : Addr} {b1 b2 : Bool} {x : Str} {e : Expr} {we : DE (Kd × D)} {p p2 pos : Pos} {c : Addr} (h1 : ExcC X.K C1) (h2 : ExcC X.K C2) (k1 : PySem.W.kitOne X.K (.ref C1) (.ref c) = some b1) (k2 : PySem.W.kitOne X.K (.ref C2) (.ref c) = some b2) (hm : X.mg "isinstance" = none) (hmc : X.mg x = some (.ref c)) (he : PE X e (te X.K W we)) (hg : Gl X "isinstance" := by rfl) (hgT : Gl X x := by rfl)
    (hdb : (x == ("__debug__" : Str)) = false := by decide) (hs : starEach [e, .Name x p2] X.env = (false, eval e X.env) :: starEach [.Name x p2] X.env := by rfl) (hs2 : starEach [.Name x p2] X.env = (false, eval (.Name x p2) X.env) :: starEach [] X.env := by rfl) (hpl : (backTo pos (starEach [.Name x p2] X.env)).any (·.1) = false := by rfl) :
    PE X (.Call (.Name "isinstance" p) [e, .Name x p2] [] pos) (te X.K W (wIsE C1 C2 b1 b2 we)) :=
  PE.imp (pe_callB VLX.call_isE hg hm (by rfl) (pa_cons he (pa_cons (pe_glob (v := .ref c) hgT hmc rfl hdb) pa_nil hs2) hs) (by decide) (by decide) hs hpl) fun _ _ _ h => te_isE h1 h2 (fun u r => r) k1 k2 h
theorem q_isETy (T : String) {C1 C2 : Addr} {b1 b2 : Bool} {x : Str} {e : Expr} {we : DE (Kd × D)} {p p2 pos : Pos} (h1 : ExcC X.K C1) (h2 : ExcC X.K C2) (k1 : PySem.W.kitOne X.K (.ref C1) (.type T) = some b1) (k2 : PySem.W.kitOne X.K (.ref C2) (.type T) = some b2) (hm : X.mg "isinstance" = none) (hmT : X.mg x = none) (he : PE X e (te X.K W we)) (hv : bootBuiltins x = some (.type T) := by rfl) (hg : Gl X "isinstance" := by rfl) (hgT : Gl X x := by rfl)
    (hn : x ≠ "__name__" := by decide) (hdb : (x == ("__debug__" : Str)) = false := by decide) (hs : starEach [e, .Name x p2] X.env = (false, eval e X.env) :: starEach [.Name x p2] X.env := by rfl) (hs2 : starEach [.Name x p2] X.env = (false, eval (.Name x p2) X.env) :: starEach [] X.env := by rfl) (hpl : (backTo pos (starEach [.Name x p2] X.env)).any (·.1) = false := by rfl) :
    PE X (.Call (.Name "isinstance" p) [e, .Name x p2] [] pos) (te X.K W (wIsE C1 C2 b1 b2 we)) :=
  PE.imp (pe_callB VLX.call_isE hg hm (by rfl) (pa_cons he (pa_cons (pe_bltn (v := .ty T) hgT hmT hv rfl hn hdb) pa_nil hs2) hs) (by decide) (by decide) hs hpl) fun _ _ _ h => te_isE h1 h2 (fun u r => r) k1 k2 h
theorem te_isEM {C1 C2 : Addr} {b1 b2 : Bool} {cs : List V} {us : List Value} {we : DE (Kd × D)} {Q : VK} (h1 : ExcC K C1) (h2 : ExcC K C2) (hl : cs.length ≤ sizeLine) (hp : Paired ClsV cs us) (k1 : PySem.W.kitAny K (.ref C1) us = some b1) (k2 : PySem.W.kitAny K (.ref C2) us = some b2) (h : te K W (wIsE C1 C2 b1 b2 we) σ H Q) :
    tCB (VLX.rIsEM K) (tCons (te K W we) (tCons (tTup (tCs cs)) tNil)) σ H Q := by
  obtain ⟨S, P, rfl, rfl, ok, w, k, ex⟩ := h
  refine ⟨S, _, rfl, rfl, ok, w, fun p x T' e es okT t tc v hv => ?_, ex⟩
  have key : ∀ (a C : Addr) (b : Bool), v = .ref a → VLX.KExc T'.H a C → ExcC K C → PySem.W.kitAny K (.ref C) us = some b → P.ok p (.fz, .bl b) T'.ρ → tCons (tTup (tCs cs)) tNil S.σ T'.H fun xs H2 => VLX.rIsEM K (v :: xs) H2 Q := fun a C b hv hk hC hkit q => by
    subst hv
    refine tCs_to ⟨hl, fun p hp0 => ?_⟩
    have g : Grow T'.G T'.H (upd T'.G p (.tup cs)) (upd T'.H p (.tup cs)) := Grow.new okT.ext hp0
    have na : a ≠ p := fun z => by
      rw [z] at hk
      rcases hk with hk | ⟨dd, fs, hk, _⟩ <;> rw [hp0] at hk <;> cases hk
    have hk' : VLX.KExc (upd T'.H p (.tup cs)) a C := by
      rcases hk with hk | ⟨dd, fs, hk, hk2⟩
      · exact .inl (by rw [upd_ne na]; exact hk)
      · have nd : dd ≠ p := fun z => by rw [z, hp0] at hk2; cases hk2
        exact .inr ⟨dd, fs, by rw [upd_ne na]; exact hk, by rw [upd_ne nd]; exact hk2⟩
    exact ⟨a, C, p, cs, us, b, rfl, hk', hC, upd_same, hp, hkit, k _ _ (T'.at (upd T'.G p (.tup cs)) (upd T'.H p (.tup cs))) q es (Sta.grow okT g) (t.trans g.to) (tc.add g.tch) _ (.bl _)⟩
  rcases e with ⟨fl, rfl, q⟩ | ⟨rfl, q⟩
  · obtain ⟨a, rfl, hk⟩ := exf_at (show Dt K T'.G v (.exf C1 fl) from hv) okT.ext
    exact key a C1 b1 rfl hk h1 k1 q
  · obtain ⟨a, rfl, hk⟩ := exc_at (show Dt K T'.G v (.exc C2) from hv) okT.ext
    exact key a C2 b2 rfl hk h2 k2 q
theorem q_isEM {C1 C2 : Addr} {b1 b2 : Bool} {e : Expr} {we : DE (Kd × D)} {p pos : Pos} {kk : Nat} {p2 : Pos} {cs : List V} {us : List Value} {xs : List Expr} (h1 : ExcC X.K C1) (h2 : ExcC X.K C2) (hp : Paired ClsV cs us) (k1 : PySem.W.kitAny X.K (.ref C1) us = some b1) (k2 : PySem.W.kitAny X.K (.ref C2) us = some b2) (hm : X.mg "isinstance" = none) (hcs : PA X xs (tCs cs)) (he : PE X e (te X.K W we)) (hl : cs.length ≤ sizeLine := by decide) (hg : Gl X "isinstance" := by rfl)
    (hs : starEach [e, .Tuple xs kk p2] X.env = (false, eval e X.env) :: starEach [.Tuple xs kk p2] X.env := by rfl) (hs2 : starEach [.Tuple xs kk p2] X.env = (false, eval (.Tuple xs kk p2) X.env) :: starEach [] X.env := by rfl) (hpl : (backTo pos (starEach [.Tuple xs kk p2] X.env)).any (·.1) = false := by rfl) :
    PE X (.Call (.Name "isinstance" p) [e, .Tuple xs kk p2] [] pos) (te X.K W (wIsE C1 C2 b1 b2 we)) :=
  PE.imp (pe_callB VLX.call_isEM hg hm (by rfl) (pa_cons he (pa_cons (pe_tup hcs) pa_nil hs2) hs) (by decide) (by decide) hs hpl) fun _ _ _ h => te_isEM h1 h2 hl hp k1 k2 h
/-- e.f, e a kept exception of C -/
def wXk (C : Addr) (n : Str) (we : DE (Kd × D)) : DE (Kd × D) := fun ρ P => we ρ ⟨fun p x ρ' => ∃ fl d, x = (.fz, .exf C fl) ∧ fl.lookup n = some d ∧ P.ok p (.fz, d) ρ', P.ex⟩
@[simp ↓] theorem wXk_eq {C : Addr} {n : Str} {we : DE (Kd × D)} {P : Po (Kd × D)} : wXk C n we ρ P = we ρ ⟨fun p x ρ' => ∃ fl d, x = (.fz, .exf C fl) ∧ fl.lookup n = some d ∧ P.ok p (.fz, d) ρ', P.ex⟩ := rfl
theorem DtF.look {n : Str} {d : D} : ∀ {fs : List (Str × V)} {fl : List (Str × D)}, DtF K G fs fl → fl.lookup n = some d → ∃ v, fs.lookup n = some v ∧ Dt K G v d
  | _, _, .nil, e => by cases e
  | _, _, .cons (k := k) h t, e => by
    by_cases c : n = k
    · subst c
      simp only [List.lookup, beq_self_eq_true, Option.some.injEq] at e ⊢
      subst e
      exact ⟨_, rfl, h⟩
    · have cb : (n == k) = false := by simpa using c
      simp only [List.lookup, cb] at e ⊢
      exact DtF.look t e
theorem te_xk {C : Addr} {n : Str} {we : DE (Kd × D)} {Q : VK} (h : te K W (wXk C n we) σ H Q) : VLX.tXk K C n (te K W we) σ H Q := by
  obtain ⟨S, P, rfl, rfl, ok, w, k, ex⟩ := h
  refine ⟨S, _, rfl, rfl, ok, w, fun p x T' e es okT t tc v hv => ?_, ex⟩
  obtain ⟨fl, d, rfl, hl, q⟩ := e
  have hv : Dt K T'.G v (.exf C fl) := hv
  cases hv with
  | exf hG h2 h3 =>
    obtain ⟨u, hu, hd⟩ := h3.look hl
    exact ⟨_, _, _, u, rfl, okT.ext _ _ hG, okT.ext _ _ h2, hu, k _ _ T' q es okT t tc u hd⟩
theorem q_xk {C : Addr} {e : Expr} {we : DE (Kd × D)} {pos : Pos} {n : Str} (T : XfC X.K C) (hno : PySem.W.findIn X.K (.ref C) n = some none) (he : PE X e (te X.K W we)) (hb : attributeBase e n X.env (eval e X.env) = eval e X.env := by rfl) :
    PE X (.Attribute e n pos) (te X.K W (wXk C n we)) :=
  PE.imp (VLX.pe_xk T hno he hb) fun _ _ _ h => te_xk h
end
end VL

/-! try: y = (z, f(..)) except C as e: y = (z', e) -- and y's exception is asked later -/
namespace VLX
open PySem PySem.Spec PyProof.Rows L2
section
variable {X : Cx} {pins : List (Addr × Obj)} {σ : L2.St} {H : Hp} {s : Shared}
theorem trackU {a : Addr} {oe : Obj} {u : HO} (I : Inv (X.suite a ((a, oe) :: (X.pn ++ pins))) [] σ H s) (ok : X.Ok) (hd : ∃ vs, oe.data = .fields vs) (fr : ∀ b o, X.s_0.heap.get? b = some o → b ∉ X.ex → b ≠ a) (fp : ∀ p ∈ X.pn ++ pins, p.1 ≠ a)
    (new : s.heap.get? a = some oe → ObjOk X.prog X.w (upd H a u) s.heap a u) : Inv X pins σ (upd H a u) s := by
  obtain ⟨get, hn, nL, nF, nc⟩ := I.pin (a, oe) (by rw [List.append_nil]; exact List.mem_cons_self)
  have I0 : Inv X pins σ H s := I.unsuite ok
  obtain ⟨vs, hd⟩ := hd
  refine ⟨ok, I0.os, I0.bare, ⟨I0.base.keep, I0.base.slot, fun b o e n hx => ?_, I0.base.there, fun b xs e => ?_, fun b o u e => ?_, fun b ps e => ?_⟩, I0.loc, I0.cell, ?_, fun x c e => ?_, fun p hp => ?_, I0.hok.laidN (fun _ _ e => e) hn (new get), I0.len⟩
  · rw [upd_ne (fr b o e hx)]; exact I0.base.free b o e n hx
  · have z := I0.base.tups b xs e
    rw [upd_ne (ne_of_none z hn)]; exact z
  · have z := I0.base.frzs b o u e
    rw [upd_ne (ne_of_none z hn)]; exact z
  · obtain ⟨more, z⟩ := I0.base.tbls b ps e
    exact ⟨more, by rw [upd_ne (ne_of_none z hn)]; exact z⟩
  · rw [upd_ne fun z => nL z.symm]; exact I0.free
  · have nca : c ≠ a := fun z => by
      obtain ⟨v, hv⟩ := I0.cell x c e
      rw [z] at hv
      obtain ⟨o, ho, hc⟩ := hv
      rw [get] at ho
      cases ho
      rw [hd] at hc
      cases hc
    rw [upd_ne nca]; exact I0.freeC x c e
  · obtain ⟨p1, p2, p3⟩ := I0.pin p hp
    exact ⟨p1, by rw [upd_ne (fp p hp)]; exact p2, p3⟩
end
/-- what is wished of an exception of the body: of the class c, it is kept in a tuple in slot j, and the code goes on -/
def wKeepT (K : PySem.W.Frag) (c : Value) (i j : Nat) (z : Str) (Wout : WX) (D : Ends) : WX := fun cls d σ H =>
  ∃ b, PySem.W.exmOne K cls c = some b ∧ (b = true → ∀ a p, H a = none → H p = none → p ≠ a →
    (d = none → D.nx (((σ.set i (some (.ref a))).set j (some (.ref p))).set i none) (upd (upd H p (.tup [.str z, .ref a])) a (VL.ExK cls a))) ∧
    (∀ dd, d = some dd → (∃ fs, H dd = some (.xd fs)) ∧ D.nx (((σ.set i (some (.ref a))).set j (some (.ref p))).set i none) (upd (upd H p (.tup [.str z, .ref a])) a (VL.ExF cls dd a)))) ∧ (b = false → Wout cls d σ H)
/-- y = (z, e), e in slot i -/
def tTupE (i j : Nat) (z : Str) : TS := fun D σ H => ∃ v, σ[i]? = some (some v) ∧ ∀ p, H p = none → D.nx (σ.set j (some (.ref p))) (upd H p (.tup [.str z, v]))
theorem ps_tupE {X : Cx} {i j : Nat} {z y n : Str} {kk : _} {p0 p1 p2 p3 p5 : Pos} {k0 : _} (hN : X.N.Nodup) (hi : X.N[i]? = some n := by rfl) (hj : X.N[j]? = some y := by rfl) (hv : Vis X.env.scope n := by first | exact Or.inl rfl | exact Or.inr (Or.inl rfl) | exact Or.inr (Or.inr rfl)) (hd : (n == ("__debug__" : Str)) = false := by decide) (hcd : (n == ("__classdict__" : Str)) = false := by decide)
    (hx : Loc X.env.scope y := by first | exact Or.inl rfl | exact Or.inr rfl) (hfl : X.fn y = true ∨ X.env.scope.names.lookup y = some .local := by first | exact .inl rfl | exact .inr rfl) :
    PS X (.Assign [.Name y p0] (.Tuple [.Constant (.str z) k0 p1, .Name n p3] kk p2) p5) (tTupE i j z) := by
  refine VL.PS.imp (ps_set hN hj hx (pe_tup (pa_cons pe_str (pa_cons (pv i hi hv hd hcd) pa_nil))) rfl hfl) fun D σ H h => ?_
  obtain ⟨v, hs, h⟩ := h
  exact ⟨v, hs, by show 2 ≤ sizeLine; decide, fun p hp => h p hp⟩
section
variable {X : Cx} {x n : Str} {c : Value} {i j : Nat} {z : Str} {body suite : List Stmt} {b₀ : Stmt} {np pos pos' : Pos} {tb : WX → TS} {Wout : WX}
theorem ps_try_keepT (hs : X.stack = X.env :: X.outer) (hf : X.env.frame = some X.env.locals) (hN : X.N.Nodup) (hi : X.N[i]? = some n) (hln : X.env.kindOf n = some .local) (hc : Names X x c) (tk : Takes X Wout)
    (hb : ∀ (W : WX) (pn : List (Addr × Obj)) (xe : Value → Shared → Prop), Takes (X.tr pn xe) W → PassesOwn (model X.prog X.w) X.A X.env xe → PSs (X.tr pn xe) body (tb W))
    (hsu : ∀ (a : Addr) (oe : Obj) (pn : List (Addr × Obj)), PSs (X.suite a ((a, oe) :: pn)) (b₀ :: suite) (tTupE i j z)) :
    PS X (.Try body [.ExceptHandler (some (.Name x np)) (some n) (b₀ :: suite) pos'] [] [] pos) (fun D σ H => tb (wKeepT X.K c i j z Wout D) D σ H) := by
  refine ⟨fun pins s σ H D I h => ?_⟩
  have ok := I.ok
  have hfr : X.A.frames = some (X.env :: X.outer) := by rw [ok.frames, hs]
  have hloc : Loc X.env.scope n := .inl hln
  refine wpAny_Try_except ?_
  refine wpAny_mono ((hb (wKeepT X.K c i j z Wout D) (X.pn ++ pins) (fun e s₁ => wpAny (model X.prog X.w) X.A (noteFrame e X.env) (fun _ s₂ => wpAny (model X.prog X.w) X.A (setFlight e none) (fun _ s₃ =>
    wpAny (model X.prog X.w) X.A (handleBy e X.env [.ExceptHandler (some (.Name x np)) (some n) (b₀ :: suite) pos']) (SP X pins D) X.xe s₃) X.xe s₂) X.xe s₁) (fun u s' xx => ?_) PassesOwn.looking).run [] s σ H D (I.toTry _) h) (fun f s1 hsp => ?_) (fun e s1 he => he)
  · obtain ⟨a, B, sI, pins', σ', H', cls, d, rfl, J', nb, up, sky, na, os, ag, b, hb1, hyes, hno⟩ := xx
    have J : Inv X pins σ' H' sI := J'.ofTry ok
    have sky' : Sky B (X.env :: X.outer) a (Zc cls d) X.env.locals s'.heap := by rw [← hs]; exact sky
    have hBa : B.get? a = none := by
      rcases sky' with q | q | q
      · exact q.2.1
      · exact q.2.1
      · exact q.2.1
    show wpAny (model X.prog X.w) X.A (noteFrame (.ref a) X.env) _ _ _
    refine Sky.land Zc.steady hfr hf sky' fun h3 fl3 up3 => ?_
    have J3 : Inv X pins σ' H' { s' with heap := h3 } := J.landed nb fl3.1 (up.trans up3) os ag
    obtain ⟨oe3, vs3, he3, hz3, hd3⟩ := fl3.there
    have nfr : a ∉ frs (X.env :: X.outer) := fun hm => by
      obtain ⟨_, o', e', hnf⟩ := fl3.2.2.1.mem hm
      rw [he3] at e'
      cases e'
      exact hnf _ hd3
    have nL : a ≠ X.env.locals := fun z => nfr (List.mem_filterMap.mpr ⟨X.env, List.mem_cons_self, by rw [hf, z]⟩)
    have nF : a ∉ X.fs := fun hm => by
      obtain ⟨e, he, q⟩ := List.mem_filterMap.mp hm
      exact nfr (List.mem_filterMap.mpr ⟨e, List.mem_cons_of_mem _ he, q⟩)
    have noI : ∀ b o, sI.heap.get? b = some o → b ≠ a := fun b o e z => by
      subst z
      have := nb b o e (by rw [hs]; exact nfr)
      rw [hBa] at this
      cases this
    have S3 := J3.suite he3 hd3 na nL nF
    refine wpAny_handleBy_cons (codeAny_handlers_test ?_) (by intro q; cases q)
    have LT : PySem.W.Looks (model X.prog X.w) h3 (typeOf (.ref a)) cls := fun A Q E s k q => wpAny_typeOf_ref (k _ _ he3) (by rw [hz3.1]; exact q)
    have LM := PySem.W.exm_one (M := model X.prog X.w) (J3.kIn) LT hb1
    have test : ∀ {Q : Value → Shared → Prop} {E : Value → Shared → Prop}, Q c { s' with heap := h3 } → wpAny (model X.prog X.w) (X.A.mark (some (.ref a))) (eval (.Name x np) X.env) Q E { s' with heap := h3 } := fun {Q E} q => by
      obtain ⟨hg, hdbg, hm | ⟨hm, hv, hnn⟩⟩ := hc
      · exact ld_glob (X := X.suite a ((a, oe3) :: (X.pn ++ pins))) S3 hg hm q hdbg
      · exact ld_blt (X := X.suite a ((a, oe3) :: (X.pn ++ pins))) S3 hg hm hv q hnn hdbg
    refine test (LM.here ?_)
    cases b with
    | true =>
      have hy2 := hyes rfl
      refine codeAny_handlers_suite_as ?_
      refine HandSPX.lands_againZ fl3 fun h4 fl4 up4 => ?_
      have J4 : Inv X pins σ' H' { s' with heap := h4 } := J.landed nb fl4.1 ((up.trans up3).trans up4) os ag
      obtain ⟨oe4, vs4, he4, hz4, hd4⟩ := fl4.there
      have S4 := J4.suite he4 hd4 na nL nF
      refine store_ok (X := X.suite a ((a, oe4) :: (X.pn ++ pins))) (v := .ref a) S4 hN hi hloc rfl (fun s5 S5 => ?_) (.inr hln)
      have hil : i < σ'.length := by
        have := (List.getElem?_eq_some_iff.mp hi).1
        have h2 : σ'.length = X.N.length := S4.len
        omega
      refine wpAny_mono ((hsu a oe4 (X.pn ++ pins)).run [] s5 _ H' { nx := fun σ6 H6 => ∃ p, H' p = none ∧ σ6 = (σ'.set i (some (.ref a))).set j (some (.ref p)) ∧ H6 = upd H' p (.tup [.str z, .ref a]), rt := fun _ _ => False, bk := fun _ _ => False, ct := fun _ _ => False } S5 ⟨.ref a, List.getElem?_set_self hil, fun p hp => ⟨p, hp, rfl, rfl⟩⟩) (fun f s6 hsp => ?_) (fun _ _ z => False.elim z)
      cases f with
      | next =>
        obtain ⟨σ6, H6, S6, p, hp, q6, q7⟩ := hsp
        subst q7
        obtain ⟨_, hna, _⟩ := S6.pin (a, oe4) (by rw [List.append_nil]; exact List.mem_cons_self)
        have npa : p ≠ a := fun zz => by
          rw [zz, upd_same] at hna
          cases hna
        have fr : ∀ b o, X.s_0.heap.get? b = some o → b ∉ X.ex → b ≠ a := fun b o e hx => by
          obtain ⟨o', e'⟩ := J.base.there b o e hx
          exact noI b o' e'
        have fp : ∀ p ∈ X.pn ++ pins, p.1 ≠ a := fun p hp => noI _ _ (J.pin p hp).1
        obtain ⟨y1, y2⟩ := hy2 a p na hp npa
        cases d with
        | none =>
          have T6 : Inv X pins σ6 (upd (upd H' p (.tup [.str z, .ref a])) a (VL.ExK cls a)) s6 := trackU S6 ok ⟨_, hd4⟩ fr fp fun get => ⟨⟨oe4, _, get, hz4, hd4⟩, ⟨oe4, get⟩, fun _ _ ⟨o, v, q, r⟩ k => ⟨o, v, k o q, r⟩⟩
          refine gone_ok T6 hN hi hln fun s7 J7 => ⟨_, _, J7, ?_⟩
          rw [q6]
          exact y1 rfl
        | some dd =>
          obtain ⟨⟨fs, hdd⟩, y3⟩ := y2 dd rfl
          have T6 : Inv X pins σ6 (upd (upd H' p (.tup [.str z, .ref a])) a (VL.ExF cls dd a)) s6 := trackU S6 ok ⟨_, hd4⟩ fr fp fun get => ⟨⟨oe4, _, get, hz4, hd4⟩, ⟨oe4, get⟩, fun _ _ ⟨o, v, q, r⟩ k => ⟨o, v, k o q, r⟩⟩
          refine gone_ok T6 hN hi hln fun s7 J7 => ⟨_, _, J7, ?_⟩
          rw [q6]
          exact y3
      | brk =>
        obtain ⟨σ6, H6, S6, q6⟩ := hsp
        exact q6.elim
      | cont =>
        obtain ⟨σ6, H6, S6, q6⟩ := hsp
        exact q6.elim
      | ret u =>
        obtain ⟨v6, σ6, H6, S6, r6, q6⟩ := hsp
        exact q6.elim
    | false =>
      show wpAny _ X.A (handleBy (.ref a) X.env []) _ _ _
      refine wpAny_handleBy_nil ?_
      obtain ⟨k1, k2, k3, oe, vs, T, oT, ts', he, hz, hd, h1, hr⟩ := id fl3
      unfold PySem.passOn
      refine wpAny_bind (wpAny_field he hd h1 ?_)
      rw [if_neg (show ¬ ((Value.ref T == Value.none) = true) from by simp)]
      have fin : wpAny (model X.prog X.w) X.A (setFlight (.ref a) X.env.frame) (fun _ s4 => wpAny (model X.prog X.w) X.A (throw (.ref a) : Sem Flow) (SP X pins D) X.xe s4) X.xe { s' with heap := h3 } := by
        rw [hf]
        refine HandSPX.setFlight_upZ fl3 fun h4 hh4 up4 => wpAny_throw (tk _ _ ?_)
        exact ⟨a, B, sI, pins, σ', H', cls, d, rfl, J, nb, (up.trans up3).trans up4, .inr (.inr (by rw [hs]; exact hh4)), na, os, ag, hno rfl⟩
      first
        | exact wpAny_bind (wpAny_pure (wpAny_bind fin))
        | exact wpAny_bind fin
  · cases f with
    | next =>
      obtain ⟨σ', H', J', q⟩ := hsp
      exact wpAny_execs_nil ⟨σ', H', J'.ofTry ok, q⟩
    | brk =>
      obtain ⟨σ', H', J', q⟩ := hsp
      exact ⟨σ', H', J'.ofTry ok, q⟩
    | cont =>
      obtain ⟨σ', H', J', q⟩ := hsp
      exact ⟨σ', H', J'.ofTry ok, q⟩
    | ret u =>
      obtain ⟨v, σ', H', J', r, q⟩ := hsp
      exact ⟨v, σ', H', J'.ofTry ok, r, q⟩
end
end VLX
namespace VL
open PySem PySem.Spec PyProof.Rows L2
section
variable {K : PySem.W.Frag} {W : WX} {G G' H H' H0 : Hp} {σ : L2.St} {ρ : Rho} {f f' : Own} {pin : Nat → Option V} {X : Cx} {S S0 S1 T T1 T2 U : Sta} {E : En} {Z : Ends}
/-- try: b / except c as e: y = (z, e), the exceptions of C1, with fields, and of C2, without -/
def wTryKT (C1 C2 : Addr) (i j : Nat) (z : Str) (b : DS) : DS := fun E ρ => b { E with ex := fun C fl ρ' => ρ'[i]? = some none ∧ okSlot ρ' j = true ∧ ((C = C1 ∧ fl ≠ [] ∧ E.nx (ρ'.set j (some (.F, .tup [.str z, .exf C1 fl])))) ∨ (C = C2 ∧ fl = [] ∧ E.nx (ρ'.set j (some (.F, .tup [.str z, .exc C2]))))) } ρ
@[simp ↓] theorem wTryKT_eq {C1 C2 : Addr} {i j : Nat} {z : Str} {b : DS} : wTryKT C1 C2 i j z b E ρ = b { E with ex := fun C fl ρ' => ρ'[i]? = some none ∧ okSlot ρ' j = true ∧ ((C = C1 ∧ fl ≠ [] ∧ E.nx (ρ'.set j (some (.F, .tup [.str z, .exf C1 fl])))) ∨ (C = C2 ∧ fl = [] ∧ E.nx (ρ'.set j (some (.F, .tup [.str z, .exc C2]))))) } ρ := rfl
theorem ts_tryKT {C1 C2 : Addr} {i j : Nat} {z : Str} {c : Value} {b : DS} (hij : i ≠ j) (hx1 : PySem.W.exmOne K (.ref C1) c = some true) (hx2 : PySem.W.exmOne K (.ref C2) c = some true) (h : ts K W (wTryKT C1 C2 i j z b) Z σ H) : ts K (VLX.wKeepT K c i j z W Z) b Z σ H := by
  obtain ⟨S, E, rfl, rfl, ok, w, l⟩ := h
  refine ⟨S, _, rfl, rfl, ok, w, ⟨l.nx, l.bk, l.ct, l.rt, fun C' fl T e okT t dd hd => ?_⟩⟩
  obtain ⟨hi, hj, e⟩ := e
  have fin : ∀ (a p : Addr) (u : HO) (D1 : D), T.H a = none → T.H p = none → p ≠ a → (∀ G', Ex T.G G' → G' a = some u → Dt K G' (.ref a) D1) → E.nx (T.ρ.set j (some (.F, .tup [.str z, D1]))) → Z.nx (((T.σ.set i (some (.ref a))).set j (some (.ref p))).set i none) (upd (upd T.H p (.tup [.str z, .ref a])) a u) := fun a p u D1 ha hp npa hD e => by
    have g1 : Grow T.G T.H (upd T.G a u) (upd T.H a u) := Grow.new okT.ext ha
    have ok1 := Sta.grow okT g1
    have hp1 : upd T.H a u p = none := by rw [upd_ne npa]; exact hp
    have g2 : Grow (upd T.G a u) (upd T.H a u) (upd (upd T.G a u) p (.tup [.str z, .ref a])) (upd (upd T.H a u) p (.tup [.str z, .ref a])) := Grow.new ok1.ext hp1
    have ok2 := Sta.grow ok1 g2
    have eq : upd (upd T.H p (.tup [.str z, .ref a])) a u = upd (upd T.H a u) p (.tup [.str z, .ref a]) := by
      funext b
      by_cases c1 : b = a
      · subst c1; rw [upd_same, upd_ne (fun zz => npa zz.symm), upd_same]
      · by_cases c2 : b = p
        · subst c2; rw [upd_ne c1, upd_same, upd_same]
        · rw [upd_ne c1, upd_ne c2, upd_ne c2, upd_ne c1]
    have eG : Ex T.G (upd T.G a u) := fun b o hb => by
      have nb : b ≠ a := fun zz => by rw [zz, okT.ext.free ha] at hb; cases hb
      rw [upd_ne nb]; exact hb
    have dt : Dt K (upd (upd T.G a u) p (.tup [.str z, .ref a])) (.ref p) (.tup [.str z, D1]) := Dt.tup_new (.cons (.str z) (.cons (hD _ eG upd_same) .nil)) (ok1.ext.free hp1)
    have ok3 := Sx.put ok2 hj rfl (.F dt) List.nodup_nil fun _ h => nomatch h
    have tj := (((t.trans g1.to).trans g2.to).put (i := j) (v := .ref p) (m := .F) (d := .tup [.str z, D1]) (fp := []) fun _ h => nomatch h)
    have ok4 := Sx.slots (τ := ((T.σ.set i (some (.ref a))).set j (some (.ref p))).set i none) ok3 (by simp; rfl) fun k x hk => by
      have hki : k ≠ i := fun zz => by
        subst zz
        have hk : (T.ρ.set j (some (Md.F, D.tup [.str z, D1])))[k]? = some (some x) := hk
        rw [List.getElem?_set_ne (Ne.symm hij), hi] at hk
        cases hk
      rw [List.getElem?_set_ne (Ne.symm hki)]
      by_cases hkj : k = j
      · subst hkj
        show ((T.σ.set i (some (.ref a))).set k (some (.ref p)))[k]? = (T.σ.set k (some (.ref p)))[k]?
        simp [List.getElem?_set]
      · rw [List.getElem?_set_ne (Ne.symm hkj), List.getElem?_set_ne (Ne.symm hki)]
        exact (List.getElem?_set_ne (Ne.symm hkj)).symm
    rw [eq]
    exact l.nx ⟨T.pin, upd (upd T.G a u) p (.tup [.str z, .ref a]), upd (upd T.H a u) p (.tup [.str z, .ref a]), ((T.σ.set i (some (.ref a))).set j (some (.ref p))).set i none, T.ρ.set j (some (.F, .tup [.str z, D1])), T.f.set j []⟩ e ok4 ⟨tj.stp, tj.pin⟩
  rcases e with ⟨rfl, hne, e⟩ | ⟨rfl, rfl, e⟩
  · refine ⟨true, hx1, fun _ a p ha hp npa => ⟨fun h0 => ?_, fun dd' h0 => ?_⟩, fun z => nomatch z⟩
    · rcases hd with ⟨h1, _⟩ | ⟨dx, fs, _, h1, _⟩
      · exact absurd h1 hne
      · rw [h0] at h1; cases h1
    · rcases hd with ⟨h1, _⟩ | ⟨dx, fs, _, h1, hG, hfs⟩
      · exact absurd h1 hne
      · rw [h0] at h1
        cases h1
        exact ⟨⟨fs, okT.ext _ _ hG⟩, fin a p _ _ ha hp npa (fun G' eG hu => .exf hu (eG _ _ hG) (hfs.mono eG)) e⟩
  · refine ⟨true, hx2, fun _ a p ha hp npa => ⟨fun _ => fin a p _ _ ha hp npa (fun G' _ hu => .exc hu) e, fun dd' h0 => ?_⟩, fun z => nomatch z⟩
    rcases hd with ⟨_, h1⟩ | ⟨dx, fs, h1, _⟩
    · rw [h0] at h1; cases h1
    · exact absurd rfl h1
theorem q_tryKT {C1 C2 : Addr} {i j : Nat} {z : Str} {c : Value} {x n y : Str} {b : DS} {body : List Stmt} {np pos pos' yp n2 ap p1 p2 : Pos} {k0 kk : _} (hx1 : PySem.W.exmOne X.K (.ref C1) c = some true) (hx2 : PySem.W.exmOne X.K (.ref C2) c = some true) (hm : X.mg x = some c) (hN : X.N.Nodup) (tk : Takes X W)
    (hb : ∀ (W : WX) (pn : List (Addr × Obj)) (xe : Value → Shared → Prop), Takes (X.tr pn xe) W → PassesOwn (model X.prog X.w) X.A X.env xe → PSs (X.tr pn xe) body (ts X.K W b))
    (hi : X.N[i]? = some n := by rfl) (hj : X.N[j]? = some y := by rfl) (hij : i ≠ j := by decide) (hs : X.stack = X.env :: X.outer := by rfl) (hf : X.env.frame = some X.env.locals := by rfl) (hln : X.env.kindOf n = some .local := by rfl) (hg : Gl X x := by rfl) (hdb : (x == ("__debug__" : Str)) = false := by decide)
    (hsu : ∀ (a : Addr) (oe : Obj) (pn : List (Addr × Obj)), PS (X.suite a ((a, oe) :: pn)) (.Assign [.Name y yp] (.Tuple [.Constant (.str z) k0 p1, .Name n n2] kk p2) ap) (VLX.tTupE i j z)) :
    PS X (.Try body [.ExceptHandler (some (.Name x np)) (some n) [.Assign [.Name y yp] (.Tuple [.Constant (.str z) k0 p1, .Name n n2] kk p2) ap] pos'] [] [] pos) (ts X.K W (wTryKT C1 C2 i j z b)) :=
  PS.imp (VLX.ps_try_keepT (tb := fun W => ts X.K W b) hs hf hN hi hln ⟨hg, hdb, .inl hm⟩ tk hb fun a oe pn => pss_one (hsu a oe pn)) fun _ _ _ h => ts_tryKT hij hx1 hx2 h
end
end VL

namespace My1
open My
open PySem PySem.Spec PyProof.Rows L2 VL
local macro_rules | `(tactic| simp $[[$args,*]]? $[$loc]?) => `(tactic| simp -implicitDefEqProofs $[[$args,*]]? $[$loc]?)
local macro_rules | `(tactic| simpa $[[$args,*]]? using $e) => `(tactic| simpa -implicitDefEqProofs $[[$args,*]]? using $e)
open TL PySem.StrLaws PySem.Builtin.Str
/-- a piece of a text -/
def PcOk (a : Str) : Prop := 32 ∉ tl a ∧ 10 ∉ tl a ∧ a.length ≤ 300
/-- a row that is none -/
structure BadP (p : List Str) : Prop where
  ne : p ≠ []
  n : p.length ≤ 12
  f : ∀ a ∈ p, PcOk a
  b : p.all entB = false
  l : (Txt.join (" " : Str) p).length ≤ 2000
structure WrT (t : Tab) (st sg : Nat) : Prop where
  hst : 0 < st ∧ st ≤ 4
  hsg : 0 < sg ∧ sg ≤ 4
  len : t.length = st
  row : ∀ r ∈ t, r.length = sg ∧ ∀ e ∈ r, EntF e
  bad : tabG (rwE t) = false
def W__law_told (A : Cs) : DF := fun ds P => ∃ a : Str, ds = [.str a] ∧ ((∃ (t : Tab) (st sg : Nat), ReadsTo a t st sg ∧ P.ok (.fz, .tup [.str "read", machD A t]) ds) ∨ (∃ i : Nat, Refuses A a A.C_NoText [(("line" : Str), D.int i)] ∧ P.ok (.fz, .tup [.str "text", .int i]) ds) ∨ (Refuses A a A.C_NoMachine [] ∧ P.ok (.fz, .tup [.str "machine", .int 0]) ds))
def W__law_bad_row (A : Cs) : DF := fun ds P => ∃ (ns : List Int) (a : Int) (r : List Ent), ds = [.scr ns, .lst [.int a], .str (rowS r)] ∧ (0 ≤ a ∧ a ≤ 900000000) ∧ (r ≠ [] ∧ r.length ≤ 4) ∧ (∀ e ∈ r, EntF e) ∧
  ∀ p : List Str, BadP p → P.ok (.fz, .str (Txt.join (" " : Str) p)) [.scr ns, .lst [.int (a + 1)], .str (rowS r)]
def W__law_more (A : Cs) : DF := fun ds P => ∃ (ns : List Int) (a : Int) (t : Tab) (st sg : Nat), ds = [.scr ns, .lst [.int a], .lst (t.map fun r => .str (rowS r))] ∧ (0 ≤ a ∧ a ≤ 900000000) ∧ TabOk t st sg ∧ (st ≤ 4 ∧ sg ≤ 4) ∧
  ∀ (rs : List Str) (k : Nat), Refuses A (Txt.join ("\n" : Str) rs) A.C_NoText [(("line" : Str), D.int k)] → rs.length ≤ 20 → (∀ x ∈ rs, x.length ≤ 2000) → P.ok (.fz, .tup [.lst (rs.map .str), .int k]) [.scr ns, .lst [.int (a + 1)], .lst (t.map fun r => .str (rowS r))]
def W__law_wrong (A : Cs) : DF := fun ds P => ∃ (ns : List Int) (a : Int) (t : Tab) (st sg : Nat), ds = [.scr ns, .lst [.int a], tabL t] ∧ (0 ≤ a ∧ a ≤ 900000000) ∧ TabOk t st sg ∧ (st ≤ 4 ∧ sg ≤ 4) ∧
  ∀ t' : Tab, WrT t' st sg → P.ok (.fz, tabL t') [.scr ns, .lst [.int (a + 1)], tabL t]
def W__law_one (A : Cs) : DF := fun ds P => ∃ (ns : List Int) (a : Int), ds = [.scr ns, .lst [.int a]] ∧ (0 ≤ a ∧ a ≤ 600000000) ∧ ∀ a' : Int, a ≤ a' → a' ≤ a + 50000 → P.ok (.fz, .bl true) [.scr ns, .lst [.int a']]
def W_law (A : Cs) : DF := fun ds P => ∃ ns : List Int, ds = [.scr ns] ∧ ns.length ≤ 63 ∧ P.ok (.fz, .bl true) ds
end My1

/-! an __init__ that may raise, its object not yet formed -/
namespace VL
open PySem PySem.Spec PyProof.Rows L2
def spVI (K : PySem.W.Frag) (ms ms' : List Md) (Wf : DF) : Sp := fun vs H Q E =>
  ∃ (S : Sta) (ds : List D) (P : Pf), S.H = H ∧ S.σ = vs.map some ∧ S.pin = (fun i => vs[i]?) ∧ vs.length = ms.length ∧ ds.length = ms.length ∧ S.ρ = zr ms ds ∧ S.ok K ∧ Wf ds P ∧
    (∀ x ds' (T : Sta), P.ok x ds' → ds'.length = ms'.length → T.σ = vs.map some → T.ρ = zr ms' ds' → T.ok K → S.to T → retK x.1 = true → ∀ v : V, Has K S T x.1 v x.2 → Q v T.H) ∧
    (∀ C fl ds' (T : Sta), P.ex C fl ds' → ds'.length = ms.length → T.σ = vs.map some → T.ρ = zr ms ds' → T.ok K → S.to T → ∀ dd : Option Addr, XD K T.G T.H dd fl → E (.ref C) dd T.H)
def endsOfI (ms ms' : List Md) (ds : List D) (P : Pf) : En := { endsOf ms' ds P with ex := fun C fl ρ => finK ms ds ρ fun ds' => P.ex C fl ds' }
theorem mOk_refl : ∀ {ms ms' : List Md}, mOk ms ms' = true → mOk ms ms = true
  | [], [], _ => rfl
  | .F :: ms, .F :: ms', h => mOk_refl (ms := ms) (ms' := ms') h
  | .P _ :: ms, .P _ :: ms', h => mOk_refl (ms := ms) (ms' := ms') h
section
variable {K : PySem.W.Frag} {W : WX} {G G' H H' H0 : Hp} {σ : L2.St} {ρ : Rho} {f f' : Own} {pin : Nat → Option V} {X : Cx} {S S0 S1 T T1 T2 U : Sta} {E : En} {Z : Ends}
variable {P : Program} {w : World} {mg : Str → Option Value} {base : Heap}
theorem fn_okI {x qual : Str} {st : Stmt} {fa : Addr} {fd : FuncData} {N ps : List Str} {k : Nat} {ms ms' : List Md} {Wf : DF} {w' : DS} (F : Fun K x qual st fa fd) (sc : FnScope N ps (defScope st)) (hm : ms.length = ps.length) (ho : mOk ms ms' = true) (hN : ms.length ≤ N.length)
    (body : ∀ (cdv : Value) (A : Around) (outer : List Env) (s : Shared) (H : Hp) (E : XK), Room k (A.deeper (envOfC qual (defScope st) s.heap.objs.size fa cdv)) →
      PSs (cxOf (L2.CX P w) P w K mg base N qual (defScope st) fa cdv A outer s H E) (defBody st) (ts K (fun cls d _ H => E cls d H) w'))
    (hw : ∀ ds P, ds.length = ms.length → Wf ds P → w' (endsOfI ms ms' ds P) (zr ms ds ++ List.replicate (N.length - ms.length) none)) :
    FnOk P w K mg base (L2.CX P w) (k + 1) fa fd ps (spVI K ms ms' Wf) := by
  refine F.okX sc (fun vs H Q E h => ?_) (fun cdv A outer s H vs Q E hr h => ⟨ts K (fun cls d _ H => E cls d H) w', body cdv A outer s H E hr, ?_⟩)
  · obtain ⟨S, ds, Pf, _, _, _, h, _⟩ := h
    rw [h, hm]
  · obtain ⟨S, ds, Pf, rfl, hσ, hp, hl, hd, hρ, ok, wf, k1, k2⟩ := h
    have sok := start_ok (N := N) hl hd hN ok hσ hρ
    have hσ' : ∀ (k : Nat) (v : V), vs[k]? = some v → (L2.start N vs)[k]? = some (some v) := fun k v e => by
      have e' : (vs.map some)[k]? = some (some v) := by rw [List.getElem?_map, e]; rfl
      unfold L2.start
      rw [List.getElem?_append_left (List.getElem?_eq_some_iff.mp e').1]; exact e'
    have hρ' : ∀ (k : Nat) (m : Md) (d : D), ms[k]? = some m → ds[k]? = some d → (zr ms ds ++ List.replicate (N.length - ms.length) none)[k]? = some (some (m, d)) := fun k m d e1 e2 => by
      have e := zr_get.mpr ⟨e1, e2⟩
      rw [List.getElem?_append_left (List.getElem?_eq_some_iff.mp e).1]; exact e
    have fin : ∀ (ms' : List Md) (_ : mOk ms ms' = true) {q : List D → Prop} (T : Sta), finK ms' ds T.ρ q → T.ok K → (Sta.to { S with σ := L2.start N vs, ρ := zr ms ds ++ List.replicate (N.length - ms.length) none } T) → ∃ ds', q ds' ∧ ds'.length = ms'.length ∧ Sta.ok K { T with σ := vs.map some, ρ := zr ms' ds', f := parF ms' T.f } := fun ms' ho {q} T hq okT t => by
      obtain ⟨ds', h1, h2, h3⟩ := finK_of ho hq
      exact ⟨ds', h1, h2, par_ok (S := { S with σ := L2.start N vs, ρ := zr ms ds ++ List.replicate (N.length - ms.length) none }) ho hl sok hσ' hρ' hp okT t h2 h3⟩
    refine ⟨{ S with σ := L2.start N vs, ρ := zr ms ds ++ List.replicate (N.length - ms.length) none }, endsOfI ms ms' ds Pf, rfl, rfl, sok, hw ds Pf hd wf, ?_⟩
    refine ⟨fun T e okT t => ?_, fun T e _ _ => e.elim, fun T e _ _ => e.elim, fun x T e okT t v hv => ?_, fun C fl T e okT t dd hd' => ?_⟩
    · obtain ⟨ds', h1, h2, h3⟩ := fin ms' ho T e okT t
      exact k1 _ ds' _ h1 h2 rfl rfl h3 (Sta.to.par (S := S) ⟨t.stp, t.pin⟩) rfl _ (Has.par (S := S) (T := T) (kd := .fz) rfl .non)
    · obtain ⟨ds', h1, h2, h3⟩ := fin ms' ho T e.2 okT t
      exact k1 _ ds' _ h1 h2 rfl rfl h3 (Sta.to.par (S := S) ⟨t.stp, t.pin⟩) e.1 _ (Has.par (S := S) e.1 (by
        obtain ⟨kd, d⟩ := x
        cases kd with
        | fz => exact hv
        | bor i p m => cases e.1
        | new m => exact hv))
    · obtain ⟨ds', h1, h2, h3⟩ := fin ms (mOk_refl ho) T e okT t
      exact k2 C fl ds' _ h1 h2 rfl rfl h3 (Sta.to.par (S := S) ⟨t.stp, t.pin⟩) dd hd'
end
section
variable {K : PySem.W.Frag} {W : WX} {G G' H H' H0 : Hp} {σ : L2.St} {ρ : Rho} {f f' : Own} {pin : Nat → Option V} {X : Cx} {S S0 S1 T T1 T2 U : Sta} {E : En} {Z : Ends}
theorem make_stateI {C : Addr} {fm : List Md} {n : Nat} {Wf : DF} {ds : List D} {vs : List V} {x dx : Addr} {P : Pf} {Q : VK} {EX : XK} (ok : T.ok K) (hv : DtA K T.G vs ds) (hn : ds.length = n) (hx : T.H x = none) (hdx : T.H dx = none) (ne : dx ≠ x) (w : Wf (.obj C [] :: ds) P)
    (k : ∀ z ds' (d : D) (U : Sta), P.ok z ds' → ds'.head? = some d → U.σ = T.σ → U.ρ = T.ρ → U.ok K → T.to U → Tch [] T U → Has K T U (.new (.O fm)) (.ref x) d → isN z.2 = true → Q (.ref x) U.H)
    (kn : ∀ z ds', P.ok z ds' → isN z.2 = true)
    (ex : ∀ C fl ds' (U : Sta), P.ex C fl ds' → U.σ = T.σ → U.ρ = T.ρ → U.ok K → T.to U → ∀ dd : Option Addr, XD K U.G U.H dd fl → EX (.ref C) dd U.H) :
    spVI K (mkMs [] n) (mkMs fm n) Wf (.ref x :: vs) (upd (upd T.H dx (.own x)) x (.ins C dx [])) (fun v H2 => v = .non ∧ Q (.ref x) H2) EX := by
  have hx1 : upd T.H dx (.own x) x = none := by rw [upd_ne (Ne.symm ne)]; exact hx
  have e1 : Ex T.H (upd T.H dx (.own x)) := Ex.new hdx
  have e2 : Ex T.H (upd (upd T.H dx (.own x)) x (.ins C dx [])) := e1.trans (Ex.new hx1)
  have gx : T.G x = none := ok.ext.free hx
  have nx : ¬ Ow T.f x := fun z => ok.own z hx
  have get : ∀ {fm' : List Md} {d0 : D} {ds1 : List D} (i : Nat) (m : Md) (d : D), (zr (mkMs fm' n) (d0 :: ds1))[i]? = some (some (m, d)) → (i = 0 ∧ m = .P (.O fm') ∧ d = d0) ∨ ∃ j, i = j + 1 ∧ m = .F ∧ ds1[j]? = some d := fun {fm' d0 ds1} i m d e => by
    obtain ⟨q1, q2⟩ := zr_get.mp e
    cases i with
    | zero =>
      simp [mkMs] at q1 q2
      exact .inl ⟨rfl, q1.symm, q2.symm⟩
    | succ j =>
      have q1 : (List.replicate n Md.F)[j]? = some m := by simpa [mkMs] using q1
      rw [List.getElem?_replicate] at q1
      split at q1
      · cases q1; exact .inr ⟨j, rfl, rfl, by simpa using q2⟩
      · cases q1
  have okA : Sx K (fun i => (V.ref x :: vs)[i]?) T.G (upd (upd T.H dx (.own x)) x (.ins C dx [])) ((V.ref x :: vs).map some) (zr (mkMs [] n) (.obj C [] :: ds)) (fun i => if i = 0 then [x] else []) := {
    ext := ok.ext.trans e2
    len := by
      rw [zr_len (by simp [mkMs, hn])]
      simp [mkMs, hv.len, hn]
    slot := fun i m d e => by
      rcases get i m d e with ⟨rfl, rfl, rfl⟩ | ⟨j, rfl, rfl, q⟩
      · exact ⟨.ref x, rfl, .P (.O upd_same List.nodup_nil .nil)⟩
      · obtain ⟨v, h1, h2⟩ := hv.get q
        exact ⟨v, by simp [h1], .F h2⟩
    emp := fun i e => by
      cases i with
      | zero => exact absurd rfl (e _ _)
      | succ j => rfl
    nd := fun i => by
      by_cases c : i = 0
      · simp [c]
      · simp [c]
    dj := fun i j a h h' => by
      by_cases c : i = 0
      · by_cases c' : j = 0
        · rw [c, c']
        · simp [c'] at h'
      · simp [c] at h
    out := fun i a h => by
      by_cases c : i = 0
      · simp [c] at h; rw [h]; exact gx
      · simp [c] at h
    pins := fun i m d e => by
      rcases get i _ d e with ⟨rfl, _, rfl⟩ | ⟨j, rfl, q, _⟩
      · exact ⟨.ref x, rfl, rfl⟩
      · cases q }
  have back : ∀ (fm : List Md) {ds' : List D} (B : Sta), ds'.length = (mkMs fm n).length → B.σ = (V.ref x :: vs).map some → B.ρ = zr (mkMs fm n) ds' → B.ok K → Sta.to ⟨fun i => (V.ref x :: vs)[i]?, T.G, upd (upd T.H dx (.own x)) x (.ins C dx []), (V.ref x :: vs).map some, zr (mkMs [] n) (.obj C [] :: ds), fun i => if i = 0 then [x] else []⟩ B →
      ∃ d, ds'.head? = some d ∧ Sta.ok K ⟨T.pin, B.G, B.H, T.σ, T.ρ, T.f⟩ ∧ T.to ⟨T.pin, B.G, B.H, T.σ, T.ρ, T.f⟩ ∧ Tch [] T ⟨T.pin, B.G, B.H, T.σ, T.ρ, T.f⟩ ∧ Has K T ⟨T.pin, B.G, B.H, T.σ, T.ρ, T.f⟩ (.new (.O fm)) (.ref x) d := fun fm {ds'} B hl bσ bρ okB tB => by
    have nA : ∀ a, T.H a ≠ none → ¬ Ow (fun i => if i = 0 then [x] else []) a := fun a ha ⟨i, hi⟩ => by
      by_cases c : i = 0
      · simp [c] at hi; exact ha (hi ▸ hx)
      · simp [c] at hi
    have keep : ∀ a o, T.H a = some o → B.H a = some o := fun a o ho => tB.stp.keep a o (e2 a o ho) (nA a (by rw [ho]; exact fun z => nomatch z))
    have gold : ∀ a, T.H a ≠ none → B.G a = T.G a := fun a ha => tB.stp.gold a (e2.trk ha) (nA a ha)
    cases ds' with
    | nil => simp [mkMs] at hl
    | cons d ds' =>
      have r0 : B.ρ[0]? = some (some (.P (.O fm), d)) := by rw [bρ]; rfl
      obtain ⟨v, h1, r⟩ := okB.slot 0 _ _ r0
      rw [bσ] at h1
      cases h1
      have r' := r.strip
      refine ⟨d, rfl, ?_, ⟨⟨tB.stp.gext, fun a o ho _ => keep a o ho, fun a ha _ => gold a ha, fun a h => .inl h, fun a ha => ?_⟩, rfl⟩, fun i _ => ⟨rfl, rfl, fun a _ o ho => keep a o ho⟩, B.f 0, r', okB.nd 0, fun a ha => ⟨okB.out 0 a ha, ?_⟩⟩
      · exact {
          ext := okB.ext
          len := ok.len
          slot := fun i m d e => by
            obtain ⟨v, q1, q2⟩ := ok.slot i m d e
            exact ⟨v, q1, q2.keep tB.stp.gext fun a _ o ho => keep a o ho⟩
          emp := ok.emp
          nd := ok.nd
          dj := ok.dj
          out := fun i a h => by
            show B.G a = none
            rw [gold a (ok.own ⟨i, h⟩)]
            exact ok.out i a h
          pins := ok.pins }
      · cases e : T.H a with
        | none => exact absurd e ha
        | some o => rw [show B.H a = some o from keep a o e]; exact fun z => nomatch z
      · have na : T.H a = none := by
          rcases tB.stp.fnew a ⟨0, ha⟩ with ⟨i, hi⟩ | z
          · by_cases c : i = 0
            · simp [c] at hi; rw [hi]; exact hx
            · simp [c] at hi
          · have z : upd (upd T.H dx (.own x)) x (.ins C dx []) a = none := z
            cases e : T.H a with
            | none => rfl
            | some o => rw [e2 a o e] at z; cases z
        exact ⟨fun z => ok.own z na, .inr na⟩
  refine ⟨⟨fun i => (V.ref x :: vs)[i]?, T.G, upd (upd T.H dx (.own x)) x (.ins C dx []), (V.ref x :: vs).map some, zr (mkMs [] n) (.obj C [] :: ds), fun i => if i = 0 then [x] else []⟩, .obj C [] :: ds, P, rfl, rfl, rfl, by simp [mkMs, hv.len, hn], by simp [mkMs, hn], rfl, okA, w, fun z ds' B qz hl bσ bρ okB tB _ v hz => ?_, fun C fl ds' B qz hl bσ bρ okB tB dd hd => ?_⟩
  · obtain ⟨d, e1, okU, tU, cU, hU⟩ := back fm B hl bσ bρ okB tB
    refine ⟨(hz.dt okB).non_of (kn z ds' qz), k z ds' d ⟨T.pin, B.G, B.H, T.σ, T.ρ, T.f⟩ qz e1 rfl rfl okU tU cU hU (kn z ds' qz)⟩
  · obtain ⟨d, e1, okU, tU, cU, hU⟩ := back [] B hl bσ bρ okB tB
    exact ex C fl ds' ⟨T.pin, B.G, B.H, T.σ, T.ρ, T.f⟩ qz rfl rfl okU tU dd hd
theorem te_makeI {C : Addr} {n : Nat} {fm : List Md} {Wf : DF} {dfl : List D} {dvs : List V} {wa : DE (List (Kd × D))} {Q : VK} (hd : ∀ G, DtA K G dvs dfl) (h : te K W (wMake C n fm Wf dfl wa) σ H Q) : tMakeW C (spVI K (mkMs [] n) (mkMs fm n) Wf) dvs (WE W) (ta K W wa) σ H Q := by
  obtain ⟨S, P, rfl, rfl, ok, w, k, ex⟩ := h
  refine ⟨S, _, rfl, rfl, ok, w, fun p xs T w1 e1 ok1 t1 pr1 vs h1 x dx hx hdx ne => ?_, ex⟩
  obtain ⟨⟨fz, hl⟩, w1⟩ := w1
  refine make_stateI ok1 ((h1.fzs fz).append (hd T.G)) (by simpa using hl) hx hdx ne w1 (fun z ds' d U q e eσ eρ okU tU cU hU hz => ?_) (fun z ds' q => q.1) (fun C fl ds' U q eσ eρ okU tU dd hdd => ?_)
  · have q2 := q.2
    cases ds' with
    | nil => exact q2.elim
    | cons d0 ds' =>
      cases e
      exact k _ _ U (by rw [eρ]; exact q2) (eσ.trans e1) okU (t1.trans tU) (pr1.add cU) _ (hU.from t1)
  · exact ex C fl U (by rw [eρ]; exact q) (eσ.trans e1) okU (t1.trans tU) dd hdd
end
section
variable {K : PySem.W.Frag} {W : WX} {G G' H H' H0 : Hp} {σ : L2.St} {ρ : Rho} {f f' : Own} {pin : Nat → Option V} {X : Cx} {S S0 S1 T T1 T2 U : Sta} {E : En} {Z : Ends}
variable {k : Nat} {fa C : Addr} {fd : FuncData} {ps : List Str} {ms : List Md} {Wf : DF} {x m : Str} {p pos apos : Pos} {o e : Expr} {es : List Expr} {wr : DE (Kd × D)} {wa : DE (List (Kd × D))} {n : Nat} {fm : List Md}
theorem q_makeI (M : Mk X.K C fa) (F : FnOk X.prog X.w X.K X.mg X.base (L2.CX X.prog X.w) k fa fd ps (spVI X.K (mkMs [] n) (mkMs fm n) Wf)) (hr : Room (k + 1) X.A) (hm : X.mg x = some (.ref C)) (hb : Binds X.K fd ps []) (tk : Takes X W)
    (ha : PA X (e :: es) (ta X.K W wa)) (hg : Gl X x := by rfl) (hdb : (x == ("__debug__" : Str)) = false := by decide) (he : starEach (e :: es) X.env = (false, eval e X.env) :: starEach es X.env := by rfl) (hpl : (backTo pos (starEach es X.env)).any (·.1) = false := by rfl) :
    PE X (.Call (.Name x p) (e :: es) [] pos) (te X.K W (wMake C n fm Wf [] wa)) := PE.imp (pe_makeW M F hr hg hm hb .nil (fun σ => passAt tk σ) ha hdb he hpl) fun _ _ _ h => te_makeI (fun _ => .nil) h
end
@[simp ↓] theorem endsI_nx {ms ms' : List Md} {ds : List D} {F : Pf} {ρ : Rho} : (endsOfI ms ms' ds F).nx ρ = finK ms' ds ρ fun ds' => F.ok (.fz, .non) ds' := rfl
@[simp ↓] theorem endsI_rt {ms ms' : List Md} {ds : List D} {F : Pf} {x : Kd × D} {ρ : Rho} : (endsOfI ms ms' ds F).rt x ρ = (retK x.1 = true ∧ finK ms' ds ρ fun ds' => F.ok x ds') := rfl
@[simp ↓] theorem endsI_ex {ms ms' : List Md} {ds : List D} {F : Pf} {C : Addr} {fl : List (Str × D)} {ρ : Rho} : (endsOfI ms ms' ds F).ex C fl ρ = finK ms ds ρ fun ds' => F.ex C fl ds' := rfl
end VL

namespace My1
open My
open PySem PySem.Spec PyProof.Rows L2 VL
def w_is_number (A : Cs) : DS :=
  wRet (wAndV (wIsi "int" (wVar 0)) (wAndV (wNotV (wIsi "bool" (wVar 0))) (wChain (oB0 fun i j => decide (i ≤ j)) (oB0 fun i j => decide (i < j)) (wC (.int 0)) (wVar 0) (wVar 1))))

def w_entry_kept (A : Cs) : DS :=
  wSeq (wIfS (wT (wOp oIsN (wVar 0) (wC .non))) (wRet (wC .non)) (wNext)) <|
  wSeq (wIfS (wOr (wNot (wT (wIsi "tuple" (wVar 0)))) (wT (wOp oNe (wCB oLen (wCons (wVar 0) (wNil))) (wC (.int 3))))) (wRaise A.C_NoMachine) (wNext)) <|
  wSeq (wAsg (wVar 0) (wgTup 3 (wgCons (wgN 3) (wgCons (wgN 4) (wgCons (wgN 5) (wgNil)))))) <|
  wSeq (wIfS (wOr (wNot (wT (wCall [.F, .F] (W_is_number A) [] (wCons (wVar 3) (wCons (wVar 2) (wNil)))))) (wOr (wT (wOp oNotIn (wVar 4) (wTup (wCons (wC (.str "l")) (wCons (wC (.str "r")) (wNil)))))) (wNot (wT (wCall [.F, .F] (W_is_number A) [] (wCons (wVar 5) (wCons (wVar 1) (wNil)))))))) (wRaise A.C_NoMachine) (wNext)) <|
  wRet (wTup (wCons (wVar 3) (wCons (wVar 4) (wCons (wVar 5) (wNil)))))

def w_Machine_init (A : Cs) : DS :=
  wSeq (wIfS (wOr (wT (wOp oEq (wCB oLen (wCons (wVar 1) (wNil))) (wC (.int 0)))) (wT (wOp oEq (wCB oLen (wCons (wOp oIx (wVar 1) (wC (.int 0))) (wNil))) (wC (.int 0))))) (wRaise A.C_NoMachine) (wNext)) <|
  wSeq (wSet 2 (wFz (wCB oLen (wCons (wVar 1) (wNil))))) <|
  wSeq (wSet 3 (wFz (wCB oLen (wCons (wOp oIx (wVar 1) (wC (.int 0))) (wNil))))) <|
  wSeq (wSet 4 (wLst (wNil))) <|
  wSeq (wFor (wIt (wVar 1)) (wgN 5) (wSeq (wIfS (wT (wOp oNe (wCB oLen (wCons (wVar 5) (wNil))) (wVar 3))) (wRaise A.C_NoMachine) (wNext)) <|
  wDrop (wMut mApp (wVar 4) (wCons (wCB oTuple (wCons (wLcX (wIt (wVar 5)) (wgN 6) (wYes) (wCall [.F, .F, .F] (W_entry_kept A) [] (wCons (wVar 6) (wCons (wVar 2) (wCons (wVar 3) (wNil))))) [6] []) (wNil))) (wNil))))) <|
  wPutF 0 A.C_Machine "table" 0 (wFz (wCB oTuple (wCons (wVar 4) (wNil))))

end My1

namespace My1
open My
open PySem PySem.Spec PyProof.Rows L2 VL
def w_read_machine (A : Cs) : DS :=
  wSeq (wSet 2 (wFz (wLc (wIt (wSM oSplit (wVar 0) (wC (.str "\n")))) (wgN 1) (wYes) (wSM oSplit (wVar 1) (wC (.str " "))) [1] []))) <|
  wSeq (wSet 3 (wLst (wNil))) <|
  wSeq (wFor (wEnum (wCons (wVar 2) (wNil))) (wgTup 2 (wgCons (wgN 4) (wgCons (wgN 5) (wgNil)))) (wSeq (wIfS (wOr (wT (wOp oNe (wCB oLen (wCons (wVar 5) (wNil))) (wCB oLen (wCons (wOp oIx (wVar 2) (wC (.int 0))) (wNil))))) (wNot (wT (wCB oAll (wCons (wLc (wIt (wVar 5)) (wgN 6) (wYes) (wCall [.F] (W_is_entry A) [] (wCons (wVar 6) (wNil))) [6] []) (wNil)))))) (wRaiseF A.C_NoText "line" (wVar 4)) (wNext)) <|
  wDrop (wMut mApp (wVar 3) (wCons (wLc (wIt (wVar 5)) (wgN 6) (wYes) (wCall [.F] (W_entry_from A) [] (wCons (wVar 6) (wNil))) [6] []) (wNil))))) <|
  wRet (wMake A.C_Machine 1 [.F] (W_Machine_init A) [] (wCons (wFrz 3) (wNil)))

end My1

namespace My1
open My
open PySem PySem.Spec PyProof.Rows L2 VL
def w__law_told (A : Cs) : DS :=
  wSeq (wTryKT A.C_NoText A.C_NoMachine 2 1 "no" (wSet 1 (wFz (wTup (wCons (wC (.str "read")) (wCons (wCall [.F] (W_read_machine A) [] (wCons (wVar 0) (wNil))) (wNil))))))) <|
  wSeq (wIfS (wT (wOp oEq (wOp oIx (wVar 1) (wC (.int 0))) (wC (.str "read")))) (wRet (wVar 1)) (wNext)) <|
  wSeq (wSet 3 (wFz (wOp oIx (wVar 1) (wC (.int 1))))) <|
  wSeq (wIfS (wT (wIsE A.C_NoText A.C_NoMachine false false (wVar 3))) (wRet (wTup (wCons (wC (.str "other")) (wCons (wC (.int 0)) (wNil))))) (wNext)) <|
  wSeq (wIfS (wAnd (wT (wIsE A.C_NoText A.C_NoMachine true false (wVar 3))) (wAnd (wT (wIsE A.C_NoText A.C_NoMachine true true (wVar 3))) (wNot (wT (wIsE A.C_NoText A.C_NoMachine false true (wVar 3)))))) (wRet (wTup (wCons (wC (.str "text")) (wCons (wXk A.C_NoText "line" (wVar 3)) (wNil))))) (wNext)) <|
  wSeq (wIfS (wAnd (wT (wIsE A.C_NoText A.C_NoMachine false true (wVar 3))) (wAnd (wT (wIsE A.C_NoText A.C_NoMachine true true (wVar 3))) (wNot (wT (wIsE A.C_NoText A.C_NoMachine true false (wVar 3)))))) (wRet (wTup (wCons (wC (.str "machine")) (wCons (wC (.int 0)) (wNil))))) (wNext)) <|
  wRet (wTup (wCons (wC (.str "other")) (wCons (wC (.int 0)) (wNil))))

def w__law_bad_row (A : Cs) : DS :=
  wSeq (wSet 3 (wFz (wCall [.F, .P (.L .F)] (W__law_nextR A) [] (wCons (wVar 0) (wCons (wVar 1) (wNil)))))) <|
  wSeq (wSet 4 (wSM oSplit (wVar 2) (wC (.str " ")))) <|
  wSeq (wSet 5 (wFz (wOp (oI (fun _ j => 0 < j) fun i j => i % j) (wOp (oI CDiv fun i j => i / j) (wVar 3) (wC (.int 9))) (wCB oLen (wCons (wVar 4) (wNil)))))) <|
  wSeq (wIfS (wT (wOp oEq (wOp (oI (fun _ j => 0 < j) fun i j => i % j) (wVar 3) (wC (.int 9))) (wC (.int 0)))) (wRet (wOp oAdd (wVar 2) (wC (.str " ")))) (wNext)) <|
  wSeq (wIfS (wT (wOp oEq (wOp (oI (fun _ j => 0 < j) fun i j => i % j) (wVar 3) (wC (.int 9))) (wC (.int 1)))) (wRet (wOp oAdd (wC (.str " ")) (wVar 2))) (wNext)) <|
  wSeq (wIfS (wT (wOp oEq (wOp (oI (fun _ j => 0 < j) fun i j => i % j) (wVar 3) (wC (.int 9))) (wC (.int 2)))) (wRet (wJoin " " (wOp oAdd (wOp oAdd (wSl (wVar 4) (wNo) (wSo (wVar 5))) (wLst (wCons (wC (.str "")) (wNil)))) (wSl (wVar 4) (wSo (wVar 5)) (wNo))))) (wNext)) <|
  wSeq (wSet 6 (wFz (wLst (wCons (wC (.str "")) (wCons (wC (.str "--")) (wCons (wC (.str "r0")) (wCons (wC (.str "1r")) (wCons (wC (.str "1")) (wCons (wC (.str "1x0")) (wCons (wC (.str "01r0")) (wCons (wC (.str "1r00")) (wCons (wC (.str "-1r0")) (wCons (wC (.str "+1r0")) (wCons (wC (.str "1R0")) (wCons (wC (.str "1rr0")) (wCons (wC (.str "1r0l")) (wNil))))))))))))))))) <|
  wSeq (wSet 6 (wFz (wOp oAdd (wVar 6) (wLst (wCons (wC (.str "1r-1")) (wCons (wC (.str "1r0x")) (wCons (wC (.str "l")) (wCons (wOp oAdd (wOp oAdd (wC (.str "1")) (wOp oMulS (wC (.str "0")) (wC (.int 60)))) (wC (.str "r0"))) (wCons (wOp oAdd (wC (.str "0l1")) (wOp oMulS (wC (.str "0")) (wC (.int 60)))) (wCons (wC (.str "1.0r0")) (wCons (wC (.str "0 l")) (wNil)))))))))))) <|
  wSeq (wSub (wOp oIx (wVar 6) (wOp (oI (fun _ j => 0 < j) fun i j => i % j) (wOp (oI CDiv fun i j => i / j) (wVar 3) (wC (.int 100))) (wC (.int 20)))) (wVar 4) (wVar 5)) <|
  wRet (wJoin " " (wVar 4))

def w__law_more (A : Cs) : DS :=
  wSeq (wSet 3 (wFz (wCall [.F, .P (.L .F)] (W__law_nextR A) [] (wCons (wVar 0) (wCons (wVar 1) (wNil)))))) <|
  wSeq (wSet 4 (wFz (wOp (oI (fun _ j => 0 < j) fun i j => i % j) (wVar 3) (wCB oLen (wCons (wVar 2) (wNil)))))) <|
  wSeq (wSet 5 (wCB oList (wCons (wVar 2) (wNil)))) <|
  wSeq (wIfS (wT (wOp oEq (wOp (oI (fun _ j => 0 < j) fun i j => i % j) (wOp (oI CDiv fun i j => i / j) (wVar 3) (wC (.int 5))) (wC (.int 3))) (wC (.int 0)))) (wRet (wTup (wCons (wOp oAdd (wVar 5) (wLst (wCons (wC (.str "")) (wNil)))) (wCons (wCB oLen (wCons (wVar 2) (wNil))) (wNil))))) (wNext)) <|
  wSeq (wIfS (wT (wOp oEq (wOp (oI (fun _ j => 0 < j) fun i j => i % j) (wOp (oI CDiv fun i j => i / j) (wVar 3) (wC (.int 5))) (wC (.int 3))) (wC (.int 1)))) (wSeq (wSub (wOp oAdd (wOp oIx (wVar 5) (wVar 4)) (wC (.str " -"))) (wVar 5) (wVar 4)) <|
  wSeq (wIfS (wAnd (wT (wOp oEq (wVar 4) (wC (.int 0)))) (wT (wOp (oB0 fun i j => decide (j < i)) (wCB oLen (wCons (wVar 2) (wNil))) (wC (.int 1))))) (wRet (wTup (wCons (wFrz 5) (wCons (wC (.int 1)) (wNil))))) (wNext)) <|
  wRet (wTup (wCons (wOp oAdd (wVar 5) (wLst (wCons (wOp oAdd (wC (.str "- -")) (wOp oMulS (wC (.str " -")) (wCB oLen (wCons (wSM oSplit (wOp oIx (wVar 2) (wC (.int 0))) (wC (.str " "))) (wNil))))) (wNil)))) (wCons (wCB oMax2 (wCons (wVar 4) (wCons (wC (.int 1)) (wNil)))) (wNil))))) (wNext)) <|
  wSeq (wDrop (wMut mIns (wVar 5) (wCons (wVar 4) (wCons (wC (.str "")) (wNil))))) <|
  wRet (wTup (wCons (wFrz 5) (wCons (wVar 4) (wNil))))

def w__law_wrong (A : Cs) : DS :=
  wSeq (wSet 3 (wFz (wCall [.F, .P (.L .F)] (W__law_nextR A) [] (wCons (wVar 0) (wCons (wVar 1) (wNil)))))) <|
  wSeq (wSet 5 (wLcO (.L .F) (wIt (wVar 2)) (wgN 4) (wYes) (wCB oList (wCons (wVar 4) (wNil))) [4] [])) <|
  wSeq (wSet 6 (wFz (wOp (oI (fun _ j => 0 < j) fun i j => i % j) (wVar 3) (wCB oLen (wCons (wVar 5) (wNil)))))) <|
  wSeq (wSet 7 (wFz (wOp (oI (fun _ j => 0 < j) fun i j => i % j) (wOp (oI CDiv fun i j => i / j) (wVar 3) (wC (.int 5))) (wCB oLen (wCons (wOp oIx (wVar 5) (wC (.int 0))) (wNil)))))) <|
  wSeq (wSet 8 (wFz (wCB oLen (wCons (wOp oIx (wVar 5) (wC (.int 0))) (wNil))))) <|
  wSeq (wSet 9 (wFz (wCB oLen (wCons (wVar 5) (wNil))))) <|
  wSeq (wSet 10 (wFz (wOp oIx (wLst (wCons (wC (.int 1)) (wCons (wC (.int 2)) (wCons (wOp (oI CPow fun i j => i ^ j.toNat) (wC (.int 10)) (wC (.int 9))) (wCons (wOp (oI CPow fun i j => i ^ j.toNat) (wC (.int 10)) (wC (.int 40))) (wNil)))))) (wOp (oI (fun _ j => 0 < j) fun i j => i % j) (wOp (oI CDiv fun i j => i / j) (wVar 3) (wC (.int 100))) (wC (.int 4)))))) <|
  wSeq (wSub (wOp oIx (wLst (wCons (wTup (wCons (wVar 8) (wCons (wC (.str "l")) (wCons (wC (.int 0)) (wNil))))) (wCons (wTup (wCons (wC (.int 0)) (wCons (wC (.str "r")) (wCons (wVar 9) (wNil))))) (wCons (wTup (wCons (wOp oAdd (wOp (oI0 fun i j => i - j) (wVar 8) (wC (.int 1))) (wVar 10)) (wCons (wC (.str "r")) (wCons (wC (.int 0)) (wNil))))) (wCons (wTup (wCons (wC (.int 0)) (wCons (wC (.str "l")) (wCons (wOp oAdd (wOp (oI0 fun i j => i - j) (wVar 9) (wC (.int 1))) (wVar 10)) (wNil))))) (wNil)))))) (wOp (oI (fun _ j => 0 < j) fun i j => i % j) (wOp (oI CDiv fun i j => i / j) (wVar 3) (wC (.int 25))) (wC (.int 4)))) (wOp oIx (wVar 5) (wVar 6)) (wVar 7)) <|
  wRet (wFz (wFrz 5))

def w__law_one (A : Cs) : DS :=
  wSeq (wSet 2 (wFz (wCall [.F, .P (.L .F)] (W__law_nextR A) [] (wCons (wVar 0) (wCons (wVar 1) (wNil)))))) <|
  wSeq (wSet 3 (wFz (wCall [.F, .P (.L .F), .F, .F] (W__law_tableR A) [] (wCons (wVar 0) (wCons (wVar 1) (wCons (wOp oAdd (wC (.int 1)) (wOp (oI (fun _ j => 0 < j) fun i j => i % j) (wVar 2) (wC (.int 4)))) (wCons (wOp oAdd (wC (.int 1)) (wOp (oI (fun _ j => 0 < j) fun i j => i % j) (wOp (oI CDiv fun i j => i / j) (wVar 2) (wC (.int 4))) (wC (.int 4)))) (wNil)))))))) <|
  wSeq (wSet 4 (wFz (wCall [.F] (W__law_text A) [] (wCons (wVar 3) (wNil))))) <|
  wSeq (wSet 5 (wFz (wSM oSplit (wVar 4) (wC (.str "\n"))))) <|
  wSeq (wSet 6 (wFz (wOp (oI (fun _ j => 0 < j) fun i j => i % j) (wCall [.F, .P (.L .F)] (W__law_nextR A) [] (wCons (wVar 0) (wCons (wVar 1) (wNil)))) (wCB oLen (wCons (wVar 5) (wNil)))))) <|
  wSeq (wSet 7 (wCB oList (wCons (wVar 5) (wNil)))) <|
  wSeq (wSub (wCall [.F, .P (.L .F), .F] (W__law_bad_row A) [] (wCons (wVar 0) (wCons (wVar 1) (wCons (wOp oIx (wVar 5) (wVar 6)) (wNil))))) (wVar 7) (wVar 6)) <|
  wSeq (wIfS (wAnd (wT (wOp oEq (wOp (oI (fun _ j => 0 < j) fun i j => i % j) (wOp (oI CDiv fun i j => i / j) (wVar 2) (wC (.int 16))) (wC (.int 2))) (wC (.int 0)))) (wT (wOp (oB0 fun i j => decide (i < j)) (wOp oAdd (wVar 6) (wC (.int 1))) (wCB oLen (wCons (wVar 5) (wNil)))))) (wSub (wCall [.F, .P (.L .F), .F] (W__law_bad_row A) [] (wCons (wVar 0) (wCons (wVar 1) (wCons (wOp oIx (wVar 5) (wOp oAdd (wVar 6) (wC (.int 1)))) (wNil))))) (wVar 7) (wOp oAdd (wVar 6) (wC (.int 1)))) (wNext)) <|
  wSeq (wIfS (wNot (wT (wCall [.F, .F] (W__law_sameN A 6) [] (wCons (wCall [.F] (W__law_told A) [] (wCons (wJoin "\n" (wVar 7)) (wNil))) (wCons (wTup (wCons (wC (.str "text")) (wCons (wVar 6) (wNil)))) (wNil)))))) (wRet (wC (.bl false))) (wNext)) <|
  wSeq (wAsg (wCall [.F, .P (.L .F), .F] (W__law_more A) [] (wCons (wVar 0) (wCons (wVar 1) (wCons (wVar 5) (wNil))))) (wgTup 2 (wgCons (wgN 7) (wgCons (wgN 8) (wgNil))))) <|
  wSeq (wIfS (wNot (wT (wCall [.F, .F] (W__law_sameN A 6) [] (wCons (wCall [.F] (W__law_told A) [] (wCons (wJoin "\n" (wVar 7)) (wNil))) (wCons (wTup (wCons (wC (.str "text")) (wCons (wVar 8) (wNil)))) (wNil)))))) (wRet (wC (.bl false))) (wNext)) <|
  wSeq (wSet 9 (wFz (wCall [.F] (W__law_text A) [] (wCons (wCall [.F, .P (.L .F), .F] (W__law_wrong A) [] (wCons (wVar 0) (wCons (wVar 1) (wCons (wVar 3) (wNil))))) (wNil))))) <|
  wSeq (wIfS (wNot (wT (wCall [.F, .F] (W__law_sameN A 6) [] (wCons (wCall [.F] (W__law_told A) [] (wCons (wVar 9) (wNil))) (wCons (wTup (wCons (wC (.str "machine")) (wCons (wC (.int 0)) (wNil)))) (wNil)))))) (wRet (wC (.bl false))) (wNext)) <|
  wSeq (wIfS (wOr (wNot (wT (wCall [.F, .F] (W__law_sameN A 6) [] (wCons (wCall [.F] (W__law_told A) [] (wCons (wOp oAdd (wVar 9) (wC (.str "\n"))) (wNil))) (wCons (wTup (wCons (wC (.str "text")) (wCons (wCB oLen (wCons (wVar 5) (wNil))) (wNil)))) (wNil)))))) (wNot (wT (wCall [.F, .F] (W__law_sameN A 6) [] (wCons (wCall [.F] (W__law_told A) [] (wCons (wC (.str "")) (wNil))) (wCons (wTup (wCons (wC (.str "text")) (wCons (wC (.int 0)) (wNil)))) (wNil))))))) (wRet (wC (.bl false))) (wNext)) <|
  wSeq (wSet 10 (wFz (wCall [.F] (W__law_told A) [] (wCons (wVar 4) (wNil))))) <|
  wSeq (wIfS (wOr (wT (wOp oNe (wOp oIx (wVar 10) (wC (.int 0))) (wC (.str "read")))) (wNot (wT (wIsC A.C_Machine (wOp oIx (wVar 10) (wC (.int 1))))))) (wRet (wC (.bl false))) (wNext)) <|
  wRet (wCall [.F, .F] (W__law_sameN A 6) [] (wCons (wFld A.C_Machine "table" 0 (wOp oIx (wVar 10) (wC (.int 1)))) (wCons (wCB oTuple (wCons (wLc (wIt (wVar 3)) (wgN 8) (wYes) (wCB oTuple (wCons (wVar 8) (wNil))) [8] []) (wNil))) (wNil))))

def w_law (A : Cs) : DS :=
  wSeq (wSet 1 (wLst (wCons (wC (.int 0)) (wNil)))) <|
  wSeq (wFor (wRng1 (wCons (wOp oAdd (wC (.int 1)) (wCB oMin2 (wCons (wC (.int 5)) (wCons (wOp (oI CDiv fun i j => i / j) (wCB oLen (wCons (wVar 0) (wNil))) (wC (.int 10))) (wNil))))) (wNil))) (wgN 2) (wIfS (wNot (wT (wCall [.F, .P (.L .F)] (W__law_one A) [] (wCons (wVar 0) (wCons (wVar 1) (wNil)))))) (wRet (wC (.bl false))) (wNext))) <|
  wRet (wC (.bl true))

end My1

namespace My1
open My
open PySem PySem.Spec PyProof.Rows L2 VL
local macro_rules | `(tactic| simp $[[$args,*]]? $[$loc]?) => `(tactic| simp -implicitDefEqProofs $[[$args,*]]? $[$loc]?)
local macro_rules | `(tactic| simpa $[[$args,*]]? using $e) => `(tactic| simpa -implicitDefEqProofs $[[$args,*]]? using $e)
theorem num_i {A : Cs} {P : Pf} {d : D} {n : Int} (hd : plB d = true) (h : P.ok (.fz, .bl (numB d n)) [d, .int n]) : W_is_number A [d, .int n] P := ⟨d, n, rfl, hd, h⟩
theorem d_is_number (A : Cs) (ds : List D) (P : Pf) (h : W_is_number A ds P) : w_is_number A (endsOf [.F, .F] ds P) (zr [.F, .F] ds ++ List.replicate 0 none) := by
  obtain ⟨d, n, rfl, hd, h⟩ := h
  simp only [zr_c, zr_n, List.replicate_succ, List.replicate_zero, List.cons_append, List.nil_append]
  unfold w_is_number
  cases d with
  | dct a => simp [plB] at hd
  | obj C fs => simp [plB] at hd
  | scr ns => simp [plB] at hd
  | exc ns => simp [plB] at hd
  | ndc ns => simp [plB] at hd
  | exf _ _ => simp [plB] at hd
  | int i =>
    simp [numB] at h ⊢
    by_cases c : 0 ≤ i
    · simpa [c] using h
    · simpa [c] using h
  | _ => simpa [numB] using h
theorem d_entry_kept (A : Cs) (ds : List D) (P : Pf) (h : W_entry_kept A ds P) : w_entry_kept A (endsOf [.F, .F, .F] ds P) (zr [.F, .F, .F] ds ++ List.replicate 3 none) := by
  obtain ⟨d, st, sg, rfl, hd, h⟩ := h
  simp only [zr_c, zr_n, List.replicate_succ, List.replicate_zero, List.cons_append, List.nil_append]
  unfold w_entry_kept
  cases d with
  | dct a => simp [entP, plB] at hd
  | obj C fs => simp [entP, plB] at hd
  | scr ns => simp [entP, plB] at hd
  | exc ns => simp [entP, plB] at hd
  | ndc ns => simp [entP, plB] at hd
  | exf _ _ => simp [entP, plB] at hd
  | tup xs =>
    match xs, hd, h with
    | [w, y, l], hd, h =>
      simp [entP] at hd
      obtain ⟨h1, h2, h3⟩ := hd
      have e : entG st sg (.tup [w, y, l]) = (numB w sg && (isFac y && numB l st)) := rfl
      rw [e] at h
      simp
      refine num_i h1 ?_
      cases b1 : numB w sg with
      | false =>
        rw [b1] at h
        simpa using h
      | true =>
        rw [b1] at h
        simp [h2, eqv_word h2]
        rw [fac_word] at h
        cases b2 : isWord "l" y with
        | true =>
          rw [b2] at h
          simp
          refine num_i h3 ?_
          cases b4 : numB l st with
          | false => rw [b4] at h; simpa using h
          | true => rw [b4] at h; simpa using h
        | false =>
          rw [b2] at h
          cases b3 : isWord "r" y with
          | true =>
            rw [b3] at h
            simp
            refine num_i h3 ?_
            cases b4 : numB l st with
            | false => rw [b4] at h; simpa using h
            | true => rw [b4] at h; simpa using h
          | false =>
            rw [b3] at h
            simpa using h
    | [], _, h => simpa [entG] using h
    | [_], _, h => simpa [entG] using h
    | [_, _], _, h => simpa [entG] using h
    | _ :: _ :: _ :: _ :: zs, _, h =>
      have c : ¬ (zs.length : Int) + 1 + 1 + 1 + 1 = 3 := by omega
      simpa [entG, c] using h
  | _ => simpa [entG] using h
end My1

namespace My1
open My
open PySem PySem.Spec PyProof.Rows L2 VL
local macro_rules | `(tactic| simp $[[$args,*]]? $[$loc]?) => `(tactic| simp -implicitDefEqProofs $[[$args,*]]? $[$loc]?)
local macro_rules | `(tactic| simpa $[[$args,*]]? using $e) => `(tactic| simpa -implicitDefEqProofs $[[$args,*]]? using $e)
theorem lcX_same {ds : List D} {ρ : Rho} {g : DG} {we : DE (Kd × D)} {vs q : List Nat} {Z : List D → Rho → Prop} {X : Addr → List (Str × D) → Rho → Prop} (good : D → Bool) (hz : ds.all good = true → Z ds ρ)
    (h : ∀ x ∈ ds, ∀ acc : List D, acc.length < ds.length → lcTurnX g wYes we vs q x acc ρ (fun acc' ρ' => good x = true ∧ acc' = acc ++ [x] ∧ ρ' = ρ) X) : lcKX ds g wYes we vs q ρ Z X := by
  have := lcX_map (xs := ds) (f := fun x => x) (G := fun x => x) (g := g) (we := we) (vs := vs) (q := q) (Z := Z) (X := X) (ρ := ρ) good (fun e => by simpa using hz e) h
  simpa using this
theorem ekept_i {A : Cs} {P : Pf} {d : D} {st sg : Int} (hd : entP d = true) (h : (entG st sg d = true ∧ P.ok (.fz, d) [d, .int st, .int sg]) ∨ (entG st sg d = false ∧ P.ex A.C_NoMachine [] [d, .int st, .int sg])) : W_entry_kept A [d, .int st, .int sg] P := ⟨d, st, sg, rfl, hd, h⟩
theorem lenD_seq {b : Bool} {xs : List D} : lenD (seqD b xs) = some xs.length := by cases b <;> rfl
theorem init_loop {A : Cs} {b : Bool} {rows : List (List D)} {n : Nat} {E : En} (hp : TabP rows)
    (hb : (rows.all fun x => decide (x.length = n) && x.all (entG rows.length n)) = false → ∀ ρ, ρ[0]? = some (some (.P (.O []), .obj A.C_Machine [])) → ρ.length = 7 → ρ[1]? = some (some (.F, rowsD b rows)) → E.ex A.C_NoMachine [] ρ)
    (hg : (rows.all fun x => decide (x.length = n) && x.all (entG rows.length n)) = true → ∀ a : Option D, E.nx [some (.P (.O []), .obj A.C_Machine []), some (.F, rowsD b rows), some (.F, .int rows.length), some (.F, .int n), some (.L .F, .lst (rows.map .tup)), fr a, none]) :
    forK (rows.map (seqD b)) (wgN 5) (wSeq (wIfS (wT (wOp oNe (wCB oLen (wCons (wVar 5) wNil)) (wVar 3))) (wRaise A.C_NoMachine) wNext)
      (wDrop (wMut mApp (wVar 4) (wCons (wCB oTuple (wCons (wLcX (wIt (wVar 5)) (wgN 6) wYes (wCall [Md.F, Md.F, Md.F] (W_entry_kept A) [] (wCons (wVar 6) (wCons (wVar 2) (wCons (wVar 3) wNil)))) [6] []) wNil)) wNil)))) E
      [some (.P (.O []), .obj A.C_Machine []), some (.F, rowsD b rows), some (.F, .int rows.length), some (.F, .int n), some (.L .F, .lst []), none, none] := by
  refine for_inv (fun i r => ∃ a : Option D, r = [some (.P (.O []), .obj A.C_Machine []), some (.F, rowsD b rows), some (.F, .int rows.length), some (.F, .int n), some (.L .F, .lst ((rows.take i).map .tup)), fr a, none] ∧ ((rows.take i).all fun x => decide (x.length = n) && x.all (entG rows.length n)) = true) ⟨none, by simp [fr], by simp⟩ ?_ ?_
  · rintro ρ ⟨a, rfl, h⟩
    rw [List.length_map, List.take_length] at h ⊢
    exact hg h a
  · rintro i d ρ hd ⟨a, rfl, h⟩
    rw [List.getElem?_map] at hd
    cases ex : rows[i]? with
    | none => rw [ex] at hd; cases hd
    | some x =>
      rw [ex] at hd
      cases hd
      have hm := List.mem_of_getElem? ex
      have hx := hp.2 x hm
      have hlt := (List.getElem?_eq_some_iff.mp ex).1
      have hl := hp.1
      have e1 : ((rows.take (i + 1)).all fun x => decide (x.length = n) && x.all (entG rows.length n)) = (decide (x.length = n) && x.all (entG rows.length n)) := by
        rw [List.take_add_one, ex, List.all_append, h]
        simp
      have bad : (decide (x.length = n) && x.all (entG rows.length n)) = false → (rows.all fun x => decide (x.length = n) && x.all (entG rows.length n)) = false := fun e => by
        rw [List.all_eq_false]
        exact ⟨x, hm, by rw [e]; decide⟩
      simp [lenD_seq]
      by_cases c : x.length = n
      · have hall2 : x.all (entG rows.length n) = true → ∀ y ∈ rows.take (i + 1), y.length = n ∧ ∀ z ∈ y, entG (rows.length : Int) (n : Int) z = true := fun hall y hy => by
          have e2 := e1.trans (show (decide (x.length = n) && x.all (entG rows.length n)) = true by rw [hall]; simp [c])
          rw [List.all_eq_true] at e2
          simpa using e2 y hy
        cases b with
        | true =>
          simp [seqD, c]
          refine lcX_same (entG rows.length n) (fun hall => ?_) fun y hy acc hacc => ?_
          · simp
            refine ⟨by omega, ?_, hall2 hall⟩
            rw [List.take_add_one, List.getElem?_map, ex]
            rfl
          · simp
            refine ekept_i (hx.2 y hy) ?_
            cases ge : entG (rows.length : Int) n y with
            | true =>
              refine .inl ⟨rfl, ?_⟩
              simp
              omega
            | false =>
              refine .inr ⟨rfl, ?_⟩
              have hbad := bad (by
                rw [Bool.and_eq_false_iff]
                refine .inr ?_
                rw [List.all_eq_false]
                exact ⟨y, hy, by rw [ge]; decide⟩)
              exact hb hbad _ rfl rfl rfl
        | false =>
          simp [seqD, c]
          refine lcX_same (entG rows.length n) (fun hall => ?_) fun y hy acc hacc => ?_
          · simp
            refine ⟨by omega, ?_, hall2 hall⟩
            rw [List.take_add_one, List.getElem?_map, ex]
            rfl
          · simp
            refine ekept_i (hx.2 y hy) ?_
            cases ge : entG (rows.length : Int) n y with
            | true =>
              refine .inl ⟨rfl, ?_⟩
              simp
              omega
            | false =>
              refine .inr ⟨rfl, ?_⟩
              have hbad := bad (by
                rw [Bool.and_eq_false_iff]
                refine .inr ?_
                rw [List.all_eq_false]
                exact ⟨y, hy, by rw [ge]; decide⟩)
              exact hb hbad _ rfl rfl rfl
      · rw [if_neg (by omega)]
        exact hb (bad (by simp [c])) _ rfl rfl rfl
theorem d_Machine_init (A : Cs) (ds : List D) (P : Pf) (h : W_Machine_init A ds P) : w_Machine_init A (endsOfI (mkMs [] 1) (mkMs [.F] 1) ds P) (zr (mkMs [] 1) ds ++ List.replicate 5 none) := by
  obtain ⟨b, rows, rfl, hp, h⟩ := h
  have good : tabG rows = true → P.ok (.fz, .non) [machR A rows, rowsD b rows] := fun e => by
    rcases h with h | h
    · exact h.2
    · rw [e] at h; cases h.1
  have bad : tabG rows = false → ∀ o : D, P.ex A.C_NoMachine [] [o, rowsD b rows] := fun e => by
    rcases h with h | h
    · rw [e] at h; cases h.1
    · exact h.2
  clear h
  have eM : ∀ fm, mkMs fm 1 = [.P (.O fm), .F] := fun _ => rfl
  simp only [eM]
  simp only [zr_c, zr_n, List.replicate_succ, List.replicate_zero, List.cons_append, List.nil_append]
  unfold w_Machine_init
  cases rows with
  | nil =>
    cases b with
    | true =>
      simp [rowsD, seqD]
      exact bad rfl _
    | false =>
      simp [rowsD, seqD]
      exact bad rfl _
  | cons r rs =>
    have hr := hp.2 r (by simp)
    by_cases c0 : r.length = 0
    · have e : tabG (r :: rs) = false := by simp [tabG, c0]
      have c0' : r = [] := List.eq_nil_of_length_eq_zero c0
      subst c0'
      cases b with
      | true =>
        simp [rowsD, seqD]
        exact bad e _
      | false =>
        simp [rowsD, seqD]
        exact bad e _
    · have et : tabG (r :: rs) = ((r :: rs).all fun x => decide (x.length = r.length) && x.all (entG (r :: rs).length r.length)) := by
        have c1 : 0 < r.length := by omega
        show (decide (0 < r.length) && _) = _
        rw [decide_eq_true c1, Bool.true_and]
      rw [et] at good bad
      cases b with
      | true =>
        simp [rowsD, seqD, c0]
        refine init_loop (rows := r :: rs) (b := true) (n := r.length) hp (fun e ρ h0 hl h1 => ?_) (fun e a => ?_)
        · match ρ, h0, h1 with
          | x0 :: x1 :: rest, h0, h1 =>
            simp at h0
            subst h0
            simp
            exact bad e _
        · have := good e
          simp [machR, rowsD, seqD] at this
          simp [rowsD, seqD]
          exact this
      | false =>
        simp [rowsD, seqD, c0]
        refine init_loop (rows := r :: rs) (b := false) (n := r.length) hp (fun e ρ h0 hl h1 => ?_) (fun e a => ?_)
        · match ρ, h0, h1 with
          | x0 :: x1 :: rest, h0, h1 =>
            simp at h0
            subst h0
            simp
            exact bad e _
        · have := good e
          simp [machR, rowsD, seqD] at this
          simp [rowsD, seqD]
          exact this
end My1

namespace My1
open My
open PySem PySem.Spec PyProof.Rows L2 VL
local macro_rules | `(tactic| simp $[[$args,*]]? $[$loc]?) => `(tactic| simp -implicitDefEqProofs $[[$args,*]]? $[$loc]?)
local macro_rules | `(tactic| simpa $[[$args,*]]? using $e) => `(tactic| simpa -implicitDefEqProofs $[[$args,*]]? using $e)
open TL PySem.StrLaws PySem.Builtin.Str
theorem machR_rw {A : Cs} {t : Tab} : machR A (rwE t) = machD A t := by
  simp [machR, machD, rwE, tabT, rowT, Function.comp_def]
theorem init_i {A : Cs} {P : Pf} {rows : Tab} (hp : TabP (rwE rows)) (h : (tabG (rwE rows) = true ∧ P.ok (.fz, .non) [machD A rows, .lst (rows.map rowL)]) ∨ (tabG (rwE rows) = false ∧ ∀ o : D, P.ex A.C_NoMachine [] [o, .lst (rows.map rowL)])) : W_Machine_init A [.obj A.C_Machine [], .lst (rows.map rowL)] P := by
  have e : D.lst (rows.map rowL) = rowsD true (rwE rows) := tabL_rw
  rw [e] at h ⊢
  refine ⟨true, rwE rows, rfl, hp, ?_⟩
  rw [machR_rw]
  exact h
theorem blsOf_map {α : Type} {g : α → Bool} : ∀ xs : List α, blsOf (xs.map fun a => D.bl (g a)) = some (xs.map g)
  | [] => rfl
  | x :: xs => by simp [blsOf, blsOf_map xs]
theorem read_core {A : Cs} {P : Pf} {rows : Tab} {sg : Nat} {rest : List (List Str)} {a : Str} (ea : a = txtP (rows.map gd ++ rest)) (ok : ReadOk rows sg rest)
    (hg : rest = [] → tabG (rwE rows) = true → P.ok (.new (.O [.F]), machD A rows) [.str a]) (hb : rest = [] → tabG (rwE rows) = false → P.ex A.C_NoMachine [] [.str a])
    (hr : ∀ p r', rest = p :: r' → badR rows sg p ∧ P.ex A.C_NoText [(("line" : Str), D.int rows.length)] [.str a]) :
    w_read_machine A (endsOf [.F] [.str a] P) [some (.F, .str a), none, none, none, none, none, none] := by
  have hp := ok.pcs
  have e1 : Txt.split a (Str.ofString "\n") = (rows.map gd ++ rest).map (Txt.join (" " : Str)) := by rw [ea]; exact split_txt hp
  have ln := txt_len (ps := rows.map gd ++ rest)
  rw [← ea] at ln
  have hz := ok.siz
  have hn := hp.n
  have hlen : (rows.map gd ++ rest).length = rows.length + rest.length := by simp
  rw [hlen] at hn
  have hne := hp.ne
  unfold w_read_machine
  generalize eps : rows.map gd ++ rest = ps at *
  simp [e1]
  refine ⟨by omega, ?_⟩
  refine lc_mapA (xs := ps) (f := D.str ∘ Txt.join (" " : Str)) (G := fun r => .lst (r.map D.str)) ?_ fun r hr acc ha => ?_
  · simp
    refine for_inv (fun i r => ∃ (x y z : Option D), i ≤ rows.length ∧ r = [some (.F, .str a), none, some (.F, .lst (ps.map fun r => .lst (r.map D.str))), some (.L .F, .lst ((rows.take i).map rowL)), fr x, fr y, fr z]) ⟨none, none, none, by omega, by simp [fr]⟩ ?_ ?_
    · rintro r ⟨x, y, z, hi, rfl⟩
      rw [enumD_len, List.length_map] at hi
      have er : rest = [] := List.eq_nil_of_length_eq_zero (by omega)
      have el : ps.length = rows.length := by omega
      have ez : rows.take ps.length = rows := by rw [el, List.take_length]
      simp [enumD_len, ez]
      refine init_i (tabP_rw (by omega) fun r hr => ?_) ?_
      · have h1 := hp.row (gd r) (by rw [← eps]; exact List.mem_append_left _ (List.mem_map.mpr ⟨r, hr, rfl⟩))
        have h2 := h1.2.1
        simp [gd] at h2
        omega
      · cases e : tabG (rwE rows) with
        | true => exact .inl ⟨rfl, by simpa using hg er e⟩
        | false => exact .inr ⟨rfl, fun o => by simpa using hb er e⟩
    · rintro i d r hd ⟨x, y, z, hi, rfl⟩
      obtain ⟨q, hq, rfl⟩ := enumD_get hd
      simp at hq
      obtain ⟨row, hi2, rfl⟩ := hq
      have hm : row ∈ ps := List.mem_of_getElem? hi2
      have hlt := (List.getElem?_eq_some_iff.mp hi2).1
      have hrw := hp.row row hm
      obtain ⟨r0, h0⟩ : ∃ r0, ps[0]? = some r0 := ⟨ps[0]'(by omega), List.getElem?_eq_getElem (by omega)⟩
      have hr0 := hp.row r0 (List.mem_of_getElem? h0)
      have at0 : L2.atI (ps.map fun r => D.lst (r.map D.str)) 0 = some (.lst (r0.map D.str)) := by
        rw [atI_of (by omega) (by simp; omega)]
        simp [h0]
      have first : rows ≠ [] → r0.length = sg := fun h => by
        cases rows with
        | nil => exact absurd rfl h
        | cons x xs =>
          rw [← eps] at h0
          simp at h0
          rw [← h0]
          simpa [gd] using (ok.row x (by simp)).1
      have all : ∀ {Z : Prop}, ((row.all entB) = true → Z) → True := fun _ => trivial
      by_cases c : i < rows.length
      · obtain ⟨x0, hx0⟩ : ∃ x0, rows[i]? = some x0 := ⟨rows[i], List.getElem?_eq_getElem c⟩
        have erow : row = gd x0 := by
          rw [← eps, List.getElem?_append_left (by simpa using c), List.getElem?_map, hx0] at hi2
          exact (Option.some.inj hi2).symm
        have hx := ok.row x0 (List.mem_of_getElem? hx0)
        have hrl : row.length = r0.length := by
          rw [first (by intro h; rw [h] at c; exact absurd c (Nat.not_lt_zero _)), erow]
          simpa [gd] using hx.1
        have hxl : x0.length ≤ 60 := by
          have := hrw.2.1
          rw [erow] at this
          simpa [gd] using this
        simp [at0]
        rw [if_pos (by omega)]
        refine lc_mapA (xs := row) (f := D.str) (G := fun a => .bl (entB a)) ?_ fun e he acc ha => ?_
        · have e9 : row.all entB = true := by
            rw [erow, List.all_eq_true]
            intro a ha
            obtain ⟨e, he, rfl⟩ := List.mem_map.mp ha
            exact entB_ent (hx.2 e he)
          rw [blsOf_map]
          simp [e9]
          rw [erow]
          show lcK ((x0.map entS).map D.str) _ _ _ _ _ _ _
          rw [List.map_map]
          refine lc_mapA (xs := x0) (f := D.str ∘ entS) (G := entD) ?_ fun e he acc ha => ?_
          · simp
            exact ⟨by omega, by omega, by rw [List.take_succ, List.getElem?_map, hx0]; rfl⟩
          · simp
            refine ⟨e, rfl, hx.2 e he, ?_⟩
            simp
            omega
        · simp
          refine ⟨e, rfl, by have := (hrw.2.2 e he).2.2; omega, ?_⟩
          simp
          omega
      · have ei : i = rows.length := by omega
        have her : rest[0]? = some row := by
          rw [← eps, List.getElem?_append_right (by simpa using (by omega : rows.length ≤ i))] at hi2
          simpa [ei] using hi2
        obtain ⟨r', er⟩ : ∃ r', rest = row :: r' := by
          cases rest with
          | nil => simp at her
          | cons p r' => simp at her; exact ⟨r', by rw [her]⟩
        obtain ⟨hbad, hex⟩ := hr row r' er
        simp [at0]
        by_cases c1 : row.length = r0.length
        · rw [if_pos (by omega)]
          refine lc_mapA (xs := row) (f := D.str) (G := fun a => .bl (entB a)) ?_ fun e he acc ha => ?_
          · have e9 : row.all entB = false := by
              rcases hbad with ⟨b1, b2⟩ | b
              · exact absurd (c1.trans (first b1)) b2
              · exact b
            rw [blsOf_map]
            simp [e9, ei]
            exact hex
          · simp
            refine ⟨e, rfl, by have := (hrw.2.2 e he).2.2; omega, ?_⟩
            simp
            omega
        · rw [if_neg (by omega)]
          simp [ei]
          exact hex
  · have hrr := hp.row r hr
    have e2 : Txt.split (Txt.join (" " : Str) r) (Str.ofString " ") = r := split_row hrr.1 fun a ha => (hrr.2.2 a ha).1
    have h3 := row_len hrr.2.1 fun a ha => (hrr.2.2 a ha).2.2
    simp [e2]
    omega
theorem d_read_machine (A : Cs) (ds : List D) (P : Pf) (h : W_read_machine A ds P) : w_read_machine A (endsOf [.F] ds P) (zr [.F] ds ++ List.replicate 6 none) := by
  obtain ⟨a, rfl, h⟩ := h
  simp only [zr_c, zr_n, List.replicate_succ, List.replicate_zero, List.cons_append, List.nil_append]
  rcases h with ⟨t, st, sg, hR, h⟩ | ⟨C, fl, ⟨rows, sg, rest, ea, ok, h1⟩, h⟩
  · obtain ⟨ea, ok⟩ := hR.ok
    refine read_core ea ok (fun _ _ => h) (fun _ e => ?_) fun p r' e => (nomatch e)
    rw [tabG_rw hR.t] at e
    cases e
  · rcases h1 with ⟨rfl, e, rfl, rfl⟩ | ⟨p, r', rfl, hb, rfl, rfl⟩
    · exact read_core ea ok (fun _ e2 => by rw [e] at e2; cases e2) (fun _ _ => h) fun p r' e => (nomatch e)
    · exact read_core ea ok (fun e => (nomatch e)) (fun e => (nomatch e)) fun p' r'' e => by
        cases e
        exact ⟨hb, h⟩
end My1

namespace My1
open My
open PySem PySem.Spec PyProof.Rows L2 VL
local macro_rules | `(tactic| simp $[[$args,*]]? $[$loc]?) => `(tactic| simp -implicitDefEqProofs $[[$args,*]]? $[$loc]?)
local macro_rules | `(tactic| simpa $[[$args,*]]? using $e) => `(tactic| simpa -implicitDefEqProofs $[[$args,*]]? using $e)
open TL PySem.StrLaws PySem.Builtin.Str
theorem d__law_told (A : Cs) (ds : List D) (P : Pf) (h : W__law_told A ds P) : w__law_told A (endsOf [.F] ds P) (zr [.F] ds ++ List.replicate 3 none) := by
  obtain ⟨a, rfl, h⟩ := h
  simp only [zr_c, zr_n, List.replicate_succ, List.replicate_zero, List.cons_append, List.nil_append]
  unfold w__law_told
  simp
  rcases h with ⟨t, st, sg, hR, h⟩ | ⟨i, hR, h⟩ | ⟨hR, h⟩
  · refine ⟨a, rfl, .inl ⟨t, st, sg, hR, ?_⟩⟩
    simp
    exact h
  · refine ⟨a, rfl, .inr ⟨_, _, hR, ?_⟩⟩
    refine ⟨rfl, rfl, .inl ⟨rfl, by simp, ?_⟩⟩
    simp
    refine eta ?_
    simp
    refine eta ?_
    simp
    refine eta ?_
    simp
    refine eta ?_
    simp
    exact h
  · refine ⟨a, rfl, .inr ⟨_, _, hR, ?_⟩⟩
    refine ⟨rfl, rfl, .inr ⟨rfl, rfl, ?_⟩⟩
    simp
    refine etb ?_
    simp
    refine etb ?_
    simp
    refine etb ?_
    simp
    refine etb ?_
    simp
    refine etb ?_
    simp
    exact h
end My1

namespace My1
open My
open PySem PySem.Spec PyProof.Rows L2 VL
local macro_rules | `(tactic| simp $[[$args,*]]? $[$loc]?) => `(tactic| simp -implicitDefEqProofs $[[$args,*]]? $[$loc]?)
local macro_rules | `(tactic| simpa $[[$args,*]]? using $e) => `(tactic| simpa -implicitDefEqProofs $[[$args,*]]? using $e)
open TL PySem.StrLaws PySem.Builtin.Str
theorem cut_lo' {α : Type} {f : α → D} {xs : List α} {j : Nat} (h : j ≤ xs.length) : VL.cutD (xs.map f) none (some (j : Int)) = (xs.take j).map f := by
  unfold VL.cutD
  rw [HT.sIx_none, HT.sIx_nat, List.drop_zero, Nat.sub_zero, List.length_map, Nat.min_eq_left h, List.map_take]
theorem cut_hi' {α : Type} {f : α → D} {xs : List α} {j : Nat} (h : j ≤ xs.length) : VL.cutD (xs.map f) (some (j : Int)) none = (xs.drop j).map f := by
  unfold VL.cutD
  rw [HT.sIx_none, HT.sIx_nat, List.length_map, Nat.min_eq_left h, ← List.map_drop, List.take_of_length_le (by simp)]
theorem strsOf_str : ∀ xs : List Str, strsOf (xs.map D.str) = some xs
  | [] => rfl
  | x :: xs => by simp [strsOf, strsOf_str xs]
/-- the pieces that are none -/
def badL : List Str := ["", "--", "r0", "1r", "1", "1x0", "01r0", "1r00", "-1r0", "+1r0", "1R0", "1rr0", "1r0l", "1r-1", "1r0x", "l", ("1" : Str) ++ repS "0" 60 ++ ("r0" : Str), ("0l1" : Str) ++ repS "0" 60, "1.0r0", "0 l"]
theorem badL_len : badL.length = 20 := rfl
/-- .. as pieces -/
def badP : List (List Str) := [[""], ["--"], ["r0"], ["1r"], ["1"], ["1x0"], ["01r0"], ["1r00"], ["-1r0"], ["+1r0"], ["1R0"], ["1rr0"], ["1r0l"], ["1r-1"], ["1r0x"], ["l"], [("1" : Str) ++ repS "0" 60 ++ ("r0" : Str)], [("0l1" : Str) ++ repS "0" 60], ["1.0r0"], ["0", "l"]]
theorem badP_join : badP.map (Txt.join (" " : Str)) = badL := by decide +kernel
def okP (p : List Str) : Bool := !p.isEmpty && decide (p.length ≤ 2) && p.all (fun a => decide (32 ∉ tl a) && decide (10 ∉ tl a) && decide (a.length ≤ 100)) && !p.all entB
theorem badP_ok : badP.all okP = true := by decide +kernel
theorem bad_at {i : Nat} (h : i < 20) : ∃ p x, badL[i]? = some x ∧ x = Txt.join (" " : Str) p ∧ p ≠ [] ∧ p.length ≤ 2 ∧ (∀ a ∈ p, 32 ∉ tl a ∧ 10 ∉ tl a ∧ a.length ≤ 100) ∧ p.all entB = false := by
  have hl : badP.length = 20 := rfl
  obtain ⟨p, hp⟩ : ∃ p, badP[i]? = some p := ⟨badP[i]'(by omega), List.getElem?_eq_getElem (by omega)⟩
  have ho := List.all_eq_true.mp badP_ok p (List.mem_of_getElem? hp)
  unfold okP at ho
  simp only [Bool.and_eq_true, Bool.not_eq_true', decide_eq_true_eq, List.all_eq_true] at ho
  obtain ⟨⟨⟨h1, h2⟩, h3⟩, h4⟩ := ho
  refine ⟨p, Txt.join (" " : Str) p, ?_, rfl, by intro z; rw [z] at h1; simp at h1, h2, fun a ha => ⟨(h3 a ha).1.1, (h3 a ha).1.2, (h3 a ha).2⟩, h4⟩
  rw [← badP_join, List.getElem?_map, hp]
  rfl
theorem joinL_flat {S : List Nat} {x : List Nat} {p : List (List Nat)} (hp : p ≠ []) (hx : x = joinL S p) : ∀ {a b : List (List Nat)}, joinL S (a ++ x :: b) = joinL S (a ++ p ++ b) := by
  have one : ∀ {p : List (List Nat)} {b : List (List Nat)}, p ≠ [] → joinL S (joinL S p :: b) = joinL S (p ++ b) := by
    intro p
    induction p with
    | nil => intro b h; exact absurd rfl h
    | cons q r ih =>
      intro b _
      cases r with
      | nil => rfl
      | cons q2 r2 =>
        have := ih (b := b) (by simp)
        cases b with
        | nil => simp only [List.append_nil]; rfl
        | cons b0 bs =>
          show (q ++ (S ++ joinL S (q2 :: r2))) ++ (S ++ joinL S (b0 :: bs)) = q ++ (S ++ joinL S ((q2 :: r2) ++ b0 :: bs))
          have t : joinL S (joinL S (q2 :: r2) :: b0 :: bs) = joinL S (q2 :: r2) ++ (S ++ joinL S (b0 :: bs)) := rfl
          rw [← this, t]
          simp
  intro a
  induction a with
  | nil => intro b; subst hx; exact one hp
  | cons y ys ih =>
    intro b
    have := ih (b := b)
    cases ys with
    | nil =>
      show y ++ (S ++ joinL S (x :: b)) = joinL S (y :: (p ++ b))
      obtain ⟨p0, pr, rfl⟩ : ∃ p0 pr, p = p0 :: pr := by cases p with | nil => exact absurd rfl hp | cons a b => exact ⟨a, b, rfl⟩
      show y ++ (S ++ joinL S (x :: b)) = y ++ (S ++ joinL S ((p0 :: pr) ++ b))
      have t : joinL S (x :: b) = joinL S ((p0 :: pr) ++ b) := this
      rw [t]
    | cons y2 ys2 =>
      show y ++ (S ++ joinL S ((y2 :: ys2) ++ x :: b)) = y ++ (S ++ joinL S ((y2 :: ys2) ++ p ++ b))
      rw [this]
theorem join_flat {p a b : List Str} (hp : p ≠ []) : Txt.join (" " : Str) (a ++ Txt.join (" " : Str) p :: b) = Txt.join (" " : Str) (a ++ p ++ b) := ext_tl (by
  rw [tl_joinT, tl_joinT, List.map_append, List.map_cons, List.map_append, List.map_append]
  exact joinL_flat (by simpa using hp) tl_joinT)
end My1

namespace My1
open My
open PySem PySem.Spec PyProof.Rows L2 VL
local macro_rules | `(tactic| simp $[[$args,*]]? $[$loc]?) => `(tactic| simp -implicitDefEqProofs $[[$args,*]]? $[$loc]?)
local macro_rules | `(tactic| simpa $[[$args,*]]? using $e) => `(tactic| simpa -implicitDefEqProofs $[[$args,*]]? using $e)
open TL PySem.StrLaws PySem.Builtin.Str
theorem d__law_bad_row (A : Cs) (ds : List D) (P : Pf) (h : W__law_bad_row A ds P) : w__law_bad_row A (endsOf [.F, .P (.L .F), .F] ds P) (zr [.F, .P (.L .F), .F] ds ++ List.replicate 4 none) := by
  obtain ⟨ns, a, r, rfl, ha, hr, hf, h⟩ := h
  simp only [zr_c, zr_n, List.replicate_succ, List.replicate_zero, List.cons_append, List.nil_append]
  unfold w__law_bad_row
  have hl0 : 0 < r.length := List.length_pos_iff.mpr hr.1
  have hr2 := hr.2
  have hsp : Txt.split (rowS r) (Str.ofString " ") = gd r := My.split_row hr.1 hf
  have hlen := rowS_len hf
  have hgl : (gd r).length = r.length := by simp [gd]
  have hg : ∀ x ∈ gd r, 32 ∉ tl x ∧ 10 ∉ tl x ∧ x.length ≤ 121 := fun x hx => by
    obtain ⟨e, he, rfl⟩ := List.mem_map.mp hx
    exact ⟨free_ent (hf e he) (by decide), free_ent (hf e he) (by decide), entS_len (hf e he)⟩
  have jl : ∀ p : List Str, p.length ≤ 6 → (∀ x ∈ p, x.length ≤ 121) → (Txt.join (" " : Str) p).length ≤ 2000 := fun p h1 h2 => by
    rw [len_tl, tl_joinT]
    have := joinL_len (S := tl (" " : Str)) (ps := p.map tl)
    have e : ((p.map tl).map (·.length)).sum ≤ p.length * 121 := by
      rw [List.map_map]
      exact sum_le fun x hx => by
        have := h2 x hx
        rw [len_tl] at this
        exact this
    have e2 : (tl (" " : Str)).length = 1 := by decide +kernel
    rw [e2] at this
    simp only [List.length_map] at this
    have : p.length * 121 ≤ 6 * 121 := Nat.mul_le_mul_right _ h1
    omega
  have mk : ∀ p : List Str, p ≠ [] → p.length ≤ 6 → (∀ x ∈ p, 32 ∉ tl x ∧ 10 ∉ tl x ∧ x.length ≤ 121) → p.all entB = false → BadP p := fun p h1 h2 h3 h4 => ⟨h1, by omega, fun x hx => ⟨(h3 x hx).1, (h3 x hx).2.1, by have := (h3 x hx).2.2; omega⟩, h4, jl p h2 fun x hx => (h3 x hx).2.2⟩
  have emp : 32 ∉ tl ("" : Str) ∧ 10 ∉ tl ("" : Str) ∧ ("" : Str).length ≤ 121 := ⟨by decide +kernel, by decide +kernel, by decide +kernel⟩
  have eE : entB ("" : Str) = false := by decide +kernel
  have hcd : ∀ m n : Int, 0 < n → n < 100000 → CDiv m n := fun m n h1 h2 => ⟨by omega, by omega⟩
  simp [hsp, hgl]
  refine ⟨⟨by omega, by omega⟩, fun m hm0 hm1 => ?_⟩
  obtain ⟨j, hj⟩ : ∃ j : Nat, m / 9 % (r.length : Int) = j := ⟨(m / 9 % (r.length : Int)).toNat, by have := Int.emod_nonneg (m / 9) (show (r.length : Int) ≠ 0 by omega); omega⟩
  have hjl : j < r.length := by
    have := Int.emod_lt_of_pos (m / 9) (show (0 : Int) < r.length by omega)
    omega
  have cA := cut_lo' (f := D.str) (xs := gd r) (j := j) (by omega)
  have cB := cut_hi' (f := D.str) (xs := gd r) (j := j) (by omega)
  have l1 : (Str.ofString " ").length = 1 := by decide +kernel
  have sum6 : ∀ p : List Str, p.length ≤ 6 → (∀ x ∈ p, x.length ≤ 121) → (p.map (·.length)).sum + p.length * 1 ≤ 100000 := fun p h1 h2 => by
    have e : (p.map (·.length)).sum ≤ p.length * 121 := sum_le fun x hx => h2 x hx
    have : p.length * 121 ≤ 6 * 121 := Nat.mul_le_mul_right _ h1
    omega
  have r2 : r.length * 122 ≤ 4 * 122 := Nat.mul_le_mul_right _ hr2
  have z60 : (repS (Str.ofString "0") 60).length = 60 := by decide +kernel
  have l0 : (Str.ofString "0").length = 1 := by decide +kernel
  have lA : (Str.ofString "1").length = 1 := by decide +kernel
  have lB : (Str.ofString "r0").length = 2 := by decide +kernel
  have lC : (Str.ofString "0l1").length = 3 := by decide +kernel
  have hin : ∀ (p : List Str), (∀ x ∈ p, 32 ∉ tl x ∧ 10 ∉ tl x ∧ x.length ≤ 121) → ∀ x ∈ (gd r).take j ++ p ++ (gd r).drop (j + 1), 32 ∉ tl x ∧ 10 ∉ tl x ∧ x.length ≤ 121 := fun p hp x hx => by
    simp only [List.mem_append] at hx
    rcases hx with (hx | hx) | hx
    · exact hg x (List.mem_of_mem_take hx)
    · exact hp x hx
    · exact hg x (List.mem_of_mem_drop hx)
  simp only [hsp, hgl, hj, cA, cB]
  simp [hsp, hgl, hj, cA, cB]
  refine ⟨by omega, hcd _ _ (by omega) (by omega), hl0, ?_⟩
  by_cases c0 : m % 9 = 0
  · rw [if_pos c0]
    have e : Txt.join (" " : Str) (gd r ++ [("" : Str)]) = rowS r ++ (" " : Str) := by
      rw [join_snoc (by simpa [gd] using hr.1)]
      exact ext_tl (by rw [tl_append]; show _ ++ [] = _; rw [List.append_nil]; rfl)
    have := h (gd r ++ [("" : Str)]) (mk _ (by simp) (by simp [hgl]; omega) (fun x hx => by
      rcases List.mem_append.mp hx with hx | hx
      · exact hg x hx
      · simp at hx; subst hx; exact emp) (by rw [List.all_append]; simp [eE]))
    rw [e] at this
    exact ⟨by omega, this⟩
  · rw [if_neg c0]
    by_cases c1 : m % 9 = 1
    · rw [if_pos c1]
      have e : Txt.join (" " : Str) (("" : Str) :: gd r) = (" " : Str) ++ rowS r := ext_tl (by
        obtain ⟨x, xs, hx⟩ : ∃ x xs, gd r = x :: xs := by
          cases e : gd r with
          | nil => rw [e] at hgl; simp at hgl; omega
          | cons a b => exact ⟨a, b, rfl⟩
        have hrow : rowS r = Txt.join (" " : Str) (gd r) := rfl
        rw [tl_append, hrow, tl_joinT, tl_joinT, hx]
        rfl)
      have := h (("" : Str) :: gd r) (mk _ (by simp) (by simp [hgl]; omega) (fun x hx => by
        rcases List.mem_cons.mp hx with rfl | hx
        · exact emp
        · exact hg x hx) (by simp [eE]))
      rw [e] at this
      exact ⟨by omega, this⟩
    · rw [if_neg c1]
      by_cases c2 : m % 9 = 2
      · rw [if_pos c2]
        have es : strsOf (List.take j ((gd r).map D.str) ++ D.str (Str.ofString "") :: List.drop j ((gd r).map D.str)) = some ((gd r).take j ++ ("" : Str) :: (gd r).drop j) := by
          rw [← strsOf_str]
          simp
        rw [es]
        simp only [optK_s, l1]
        have hpI : ∀ x ∈ (gd r).take j ++ ("" : Str) :: (gd r).drop j, 32 ∉ tl x ∧ 10 ∉ tl x ∧ x.length ≤ 121 := fun x hx => by
          rcases List.mem_append.mp hx with hx | hx
          · exact hg x (List.mem_of_mem_take hx)
          · rcases List.mem_cons.mp hx with rfl | hx
            · exact emp
            · exact hg x (List.mem_of_mem_drop hx)
        have hll : ((gd r).take j ++ ("" : Str) :: (gd r).drop j).length ≤ 6 := by simp [hgl]; omega
        refine ⟨by omega, by omega, sum6 _ hll fun x hx => (hpI x hx).2.2, ?_⟩
        exact h _ (mk _ (by simp) hll hpI (by rw [List.all_append]; simp [eE]))
      · rw [if_neg c2]
        have q0 := Int.emod_nonneg (m / 100) (show (20 : Int) ≠ 0 by omega)
        have q1 := Int.emod_lt_of_pos (m / 100) (show (0 : Int) < 20 by omega)
        obtain ⟨i, hi⟩ : ∃ i : Nat, m / 100 % 20 = (i : Int) := ⟨(m / 100 % 20).toNat, by omega⟩
        obtain ⟨p, x, hx, hxp, hp0, hp2, hpf, hpb⟩ := bad_at (i := i) (by omega)
        have hat : L2.atI (badL.map D.str) (i : Int) = some (.str x) := by
          rw [atI_of (by omega) (by rw [List.length_map, badL_len]; omega), List.getElem?_map]
          simp [hx]
        rw [hi]
        refine ⟨⟨by omega, by omega⟩, by omega, by rw [str_app]; omega, ⟨by omega, by omega⟩, by omega, hcd _ _ (by omega) (by omega), ?_⟩
        show optK (L2.atI (badL.map D.str) (i : Int)) _
        rw [hat]
        have hix : L2.ixN r.length (j : Int) = some j := by
          unfold L2.ixN
          simp [hjl]
        simp only [optK_s, hix]
        have es : strsOf (((gd r).map D.str).set j (.str x)) = some ((gd r).set j x) := by
          rw [← strsOf_str, List.map_set]
        rw [es]
        simp only [optK_s, l1]
        have eset : (gd r).set j x = (gd r).take j ++ x :: (gd r).drop (j + 1) := by
          rw [List.set_eq_take_append_cons_drop, if_pos (by omega)]
        have ej : Txt.join (" " : Str) ((gd r).set j x) = Txt.join (" " : Str) ((gd r).take j ++ p ++ (gd r).drop (j + 1)) := by
          rw [eset, hxp]
          exact join_flat hp0
        have hll : ((gd r).take j ++ p ++ (gd r).drop (j + 1)).length ≤ 6 := by simp [hgl]; omega
        have hpI := hin p fun y hy => ⟨(hpf y hy).1, (hpf y hy).2.1, by have := (hpf y hy).2.2; omega⟩
        have := h _ (mk _ (by intro z; have := congrArg List.length z; simp at this; exact hp0 this.2.1) hll hpI (by rw [List.all_append, List.all_append, hpb]; simp))
        rw [← ej] at this
        refine ⟨?_, this⟩
        have hxl : x.length ≤ 1000 := by
          rw [hxp]
          have := jl p (by omega) fun y hy => by have := (hpf y hy).2.2; omega
          have e9 : (p.map (·.length)).sum ≤ p.length * 100 := sum_le fun y hy => (hpf y hy).2.2
          have e10 := joinL_len (S := tl (" " : Str)) (ps := p.map tl)
          rw [len_tl, tl_joinT]
          have e11 : ((p.map tl).map (·.length)).sum ≤ p.length * 100 := by
            rw [List.map_map]
            exact sum_le fun y hy => by
              have := (hpf y hy).2.2
              rw [len_tl] at this
              exact this
          have e12 : (tl (" " : Str)).length = 1 := by decide +kernel
          rw [e12] at e10
          simp only [List.length_map] at e10
          have : p.length * 100 ≤ 2 * 100 := Nat.mul_le_mul_right _ hp2
          omega
        have hs2 : ∀ y ∈ (gd r).set j x, y.length ≤ 1000 := fun y hy => by
          rcases List.mem_or_eq_of_mem_set hy with hy | rfl
          · have := (hg y hy).2.2; omega
          · exact hxl
        have e13 : (((gd r).set j x).map (·.length)).sum ≤ ((gd r).set j x).length * 1000 := sum_le fun y hy => hs2 y hy
        have e14 : ((gd r).set j x).length = r.length := by simp [hgl]
        have e15 : ((gd r).set j x).length * 1000 ≤ 4 * 1000 := Nat.mul_le_mul_right _ (by omega)
        omega
end My1

namespace My1
open My
open PySem PySem.Spec PyProof.Rows L2 VL
local macro_rules | `(tactic| simp $[[$args,*]]? $[$loc]?) => `(tactic| simp -implicitDefEqProofs $[[$args,*]]? $[$loc]?)
local macro_rules | `(tactic| simpa $[[$args,*]]? using $e) => `(tactic| simpa -implicitDefEqProofs $[[$args,*]]? using $e)
open TL PySem.StrLaws PySem.Builtin.Str
structure RwOk (r : List Str) : Prop where
  ne : r ≠ []
  n : r.length ≤ 60
  f : ∀ a ∈ r, PcOk a
  l : (Txt.join (" " : Str) r).length ≤ 2000
theorem small_ok {ps : List (List Str)} (h0 : ps ≠ []) (h1 : ps.length ≤ 12) (h2 : ∀ r ∈ ps, RwOk r) : PcsOk ps ∧ sizP ps ≤ 80000 := by
  refine ⟨⟨h0, by omega, fun r hr => ⟨(h2 r hr).ne, (h2 r hr).n, (h2 r hr).f⟩⟩, ?_⟩
  unfold sizP
  have : ((ps.map (Txt.join (" " : Str))).map (·.length)).sum ≤ ps.length * 2000 := by
    rw [List.map_map]
    exact sum_le fun r hr => (h2 r hr).l
  have : ps.length * 2000 ≤ 12 * 2000 := Nat.mul_le_mul_right _ h1
  omega
theorem rw_gd {r : List Ent} (h0 : r ≠ []) (h1 : r.length ≤ 6) (h : ∀ e ∈ r, EntF e) : RwOk (gd r) := by
  refine ⟨by simpa [gd] using h0, by simp [gd]; omega, fun a ha => ?_, ?_⟩
  · obtain ⟨e, he, rfl⟩ := List.mem_map.mp ha
    exact ent_free (h e he)
  · have := gd_len h
    have : r.length * 122 ≤ 6 * 122 := Nat.mul_le_mul_right _ h1
    omega
theorem BadP.rw {p : List Str} (h : BadP p) : RwOk p := ⟨h.ne, by have := h.n; omega, h.f, h.l⟩
theorem rw_emp : RwOk [("" : Str)] := ⟨by simp, by simp, fun a ha => by simp at ha; subst ha; exact ⟨by decide +kernel, by decide +kernel, by decide +kernel⟩, by decide +kernel⟩
theorem emp_no : [("" : Str)].all entB = false := by decide +kernel
/-- the first bad row is told -/
theorem refuse_at {A : Cs} {t : Tab} {sg : Nat} {p : List Str} {rest : List (List Str)} (ht : ∀ r ∈ t, r.length = sg ∧ (r ≠ [] ∧ r.length ≤ 6) ∧ ∀ e ∈ r, EntF e) (hb : badR t sg p) (hp : RwOk p) (hr : ∀ q ∈ rest, RwOk q) (hl : t.length + 1 + rest.length ≤ 12) :
    Refuses A (Txt.join ("\n" : Str) (t.map rowS ++ Txt.join (" " : Str) p :: rest.map (Txt.join (" " : Str)))) A.C_NoText [(("line" : Str), D.int t.length)] := by
  obtain ⟨h1, h2⟩ := small_ok (ps := t.map gd ++ p :: rest) (by simp) (by simp; omega) fun r hr' => by
    rcases List.mem_append.mp hr' with q | q
    · obtain ⟨x, hx, rfl⟩ := List.mem_map.mp q
      exact rw_gd (ht x hx).2.1.1 (ht x hx).2.1.2 (ht x hx).2.2
    · rcases List.mem_cons.mp q with rfl | q
      · exact hp
      · exact hr r q
  refine ⟨t, sg, p :: rest, ?_, ⟨h1, h2, fun r hr' => ⟨(ht r hr').1, (ht r hr').2.2⟩⟩, .inr ⟨p, rest, rfl, hb, rfl, rfl⟩⟩
  unfold txtP
  rw [List.map_append, List.map_map]
  rfl
theorem more_dash {r : List Ent} (h : r ≠ []) : rowS r ++ (" -" : Str) = rowS (r ++ [none]) := by
  unfold rowS
  rw [List.map_append, List.map_cons, List.map_nil, join_snoc (by simpa using h)]
  exact ext_tl (by
    simp only [tl_append]
    have e : tl (" -" : Str) = tl (" " : Str) ++ tl (entS none) := by decide +kernel
    rw [e, List.append_assoc])
theorem dashes (n : Nat) : ("- -" : Str) ++ repS (" -" : Str) n = rowS (List.replicate (n + 2) none) := by
  induction n with
  | zero => decide +kernel
  | succ n ih =>
    have e1 : List.replicate (n + 1 + 2) (none : Ent) = List.replicate (n + 2) none ++ [none] := by
      rw [← List.replicate_succ']
    rw [e1, ← more_dash (by simp), ← ih]
    refine ext_tl ?_
    have e2 : List.replicate (n + 1) (tl (" -" : Str)) = List.replicate n (tl (" -" : Str)) ++ [tl (" -" : Str)] := by rw [← List.replicate_succ']
    simp only [tl_append, tl_rep, e2, List.flatten_append, List.flatten_cons, List.flatten_nil, List.append_nil, List.append_assoc]
theorem d__law_more (A : Cs) (ds : List D) (P : Pf) (h : W__law_more A ds P) : w__law_more A (endsOf [.F, .P (.L .F), .F] ds P) (zr [.F, .P (.L .F), .F] ds ++ List.replicate 3 none) := by
  obtain ⟨ns, a, t, st, sg, rfl, ha, ht, hs, h⟩ := h
  simp only [zr_c, zr_n, List.replicate_succ, List.replicate_zero, List.cons_append, List.nil_append]
  unfold w__law_more
  have hlen := ht.len
  have hst := ht.1
  have hsg := ht.2
  have hf := ht.f
  have hcd : ∀ m n : Int, 0 < n → n < 100000 → CDiv m n := fun m n h1 h2 => ⟨by omega, by omega⟩
  simp
  refine ⟨⟨by omega, by omega⟩, fun m hm0 hm1 => ?_⟩
  obtain ⟨k, hk⟩ : ∃ k : Nat, m % (st : Int) = (k : Int) := ⟨(m % (st : Int)).toNat, by have := Int.emod_nonneg m (show (st : Int) ≠ 0 by omega); omega⟩
  have hkl : k < st := by
    have := Int.emod_lt_of_pos m (show (0 : Int) < st by omega)
    omega
  obtain ⟨rk, hrk⟩ : ∃ rk, t[k]? = some rk := ⟨t[k]'(by omega), List.getElem?_eq_getElem (by omega)⟩
  obtain ⟨r0, hr0⟩ : ∃ r0, t[0]? = some r0 := ⟨t[0]'(by omega), List.getElem?_eq_getElem (by omega)⟩
  have rows : ∀ r ∈ t, r.length = sg ∧ (r ≠ [] ∧ r.length ≤ 6) ∧ ∀ e ∈ r, EntF e := fun r hr => ⟨(ht.row r hr).1, ⟨(hf.row r hr).1, by have := (ht.row r hr).1; omega⟩, (hf.row r hr).2⟩
  have rowl : ∀ r : List Ent, r.length ≤ 6 → (∀ e ∈ r, EntF e) → (rowS r).length ≤ 1000 := fun r h1 h2 => by
    have := rowS_len h2
    have : r.length * 122 ≤ 6 * 122 := Nat.mul_le_mul_right _ h1
    omega
  have hrkm := rows rk (List.mem_of_getElem? hrk)
  have hr0m := rows r0 (List.mem_of_getElem? hr0)
  have hix : L2.ixN st (k : Int) = some k := by
    unfold L2.ixN
    simp [hkl]
  have hat : L2.atI (t.map fun r => D.str (rowS r)) 0 = some (.str (rowS r0)) := by
    rw [atI_of (by omega) (by simp; omega)]
    simp [hr0]
  have hsp : Txt.split (rowS r0) (Str.ofString " ") = gd r0 := My.split_row hr0m.2.1.1 hr0m.2.2
  have hgl : (gd r0).length = sg := by rw [← hr0m.1]; simp [gd]
  have lD : (Str.ofString " -").length = 2 := by decide +kernel
  have lE : (Str.ofString "- -").length = 3 := by decide +kernel
  have lR : ∀ n, (repS (Str.ofString " -") n).length = n * 2 := fun n => by
    rw [len_tl, tl_rep, List.length_flatten, List.map_replicate, List.sum_replicate_nat, ← len_tl, lD]
  have hdash : ∀ e ∈ List.replicate (sg + 2) (none : Ent), EntF e := fun e he => by rw [(List.mem_replicate.mp he).2]; trivial
  have rkN : ∀ e ∈ rk ++ [none], EntF e := fun e he => by
    rcases List.mem_append.mp he with he | he
    · exact hrkm.2.2 e he
    · simp at he; subst he; trivial
  have eset : ∀ x : D, (t.map fun r => D.str (rowS r)).set k x = ((t.take k).map fun r => D.str (rowS r)) ++ x :: ((t.drop (k + 1)).map fun r => D.str (rowS r)) := fun x => by
    rw [List.set_eq_take_append_cons_drop, if_pos (by simp; omega), List.map_take, List.map_drop]
  have emp_j : Txt.join (" " : Str) [("" : Str)] = ("" : Str) := join_one
  have rowsL : ∀ x ∈ t.map rowS, x.length ≤ 2000 := fun x hx => by
    obtain ⟨r, hr, rfl⟩ := List.mem_map.mp hx
    have := rowl r (rows r hr).2.1.2 (rows r hr).2.2
    omega
  have take_r : ∀ r ∈ t.take k, r.length = sg ∧ (r ≠ [] ∧ r.length ≤ 6) ∧ ∀ e ∈ r, EntF e := fun r hr => rows r (List.mem_of_mem_take hr)
  have drop_r : ∀ j, ∀ q ∈ (t.drop j).map gd, RwOk q := fun j q hq => by
    obtain ⟨r, hr, rfl⟩ := List.mem_map.mp hq
    have h1 := rows r (List.mem_of_mem_drop hr)
    exact rw_gd h1.2.1.1 h1.2.1.2 h1.2.2
  have takeL : ∀ x ∈ (t.take k).map rowS, x.length ≤ 2000 := fun x hx => by
    obtain ⟨r, hr, rfl⟩ := List.mem_map.mp hx
    exact rowsL _ (List.mem_map.mpr ⟨r, List.mem_of_mem_take hr, rfl⟩)
  have dropL : ∀ j, ∀ x ∈ (t.drop j).map rowS, x.length ≤ 2000 := fun j x hx => by
    obtain ⟨r, hr, rfl⟩ := List.mem_map.mp hx
    exact rowsL _ (List.mem_map.mpr ⟨r, List.mem_of_mem_drop hr, rfl⟩)
  have empL : ("" : Str).length ≤ 2000 := by decide +kernel
  simp [hlen, hk]
  refine ⟨by omega, hcd _ _ (by omega) (by omega), ?_⟩
  by_cases c0 : m / 5 % 3 = 0
  · rw [if_pos c0]
    have hR := refuse_at (A := A) (t := t) (sg := sg) (p := [("" : Str)]) (rest := []) rows (.inr emp_no) rw_emp (fun q hq => nomatch hq) (by simp; omega)
    rw [emp_j, hlen] at hR
    have := h (t.map rowS ++ [("" : Str)]) st hR (by simp; omega) fun x hx => by
      rcases List.mem_append.mp hx with hx | hx
      · exact rowsL x hx
      · simp at hx; subst hx; exact empL
    refine ⟨by omega, ?_⟩
    have e : (t.map rowS ++ [("" : Str)]).map D.str = (t.map fun r => D.str (rowS r)) ++ [D.str (Str.ofString "")] := by simp
    rw [e] at this
    exact this
  · rw [if_neg c0]
    refine ⟨hcd _ _ (by omega) (by omega), ?_⟩
    by_cases c1 : m / 5 % 3 = 1
    · rw [if_pos c1]
      simp only [hix, optK_s, hrk, Option.map_some, hat]
      simp [hsp, hgl, lD, lE, lR, eset]
      have hrl := rowl rk hrkm.2.1.2 hrkm.2.2
      refine ⟨by omega, ?_⟩
      have md : rowS rk ++ Str.ofString " -" = rowS (rk ++ [none]) := more_dash hrkm.2.1.1
      have dd : Str.ofString "- -" ++ repS (Str.ofString " -") sg = rowS (List.replicate (sg + 2) none) := dashes sg
      have rowN : RwOk (gd (rk ++ [none])) := rw_gd (by simp) (by simp; omega) rkN
      have rowD : RwOk (gd (List.replicate (sg + 2) none)) := rw_gd (by simp) (by simp; omega) hdash
      have lN : (rowS (rk ++ [none])).length ≤ 2000 := rowN.l
      have lDD : (rowS (List.replicate (sg + 2) none)).length ≤ 2000 := rowD.l
      rw [md, dd]
      by_cases ck : k = 0
      · subst ck
        have ert : rk = r0 := by rw [hrk] at hr0; exact Option.some.inj hr0
        subst ert
        obtain ⟨tl0, ht0⟩ : ∃ tl0, t = rk :: tl0 := by
          cases t with
          | nil => simp at hrk
          | cons a b => simp at hrk; exact ⟨b, by rw [hrk]⟩
        have one : ∀ r ∈ [rk ++ [none]], r.length = sg + 1 ∧ (r ≠ [] ∧ r.length ≤ 6) ∧ ∀ e ∈ r, EntF e := fun r hr => by
          simp at hr
          subst hr
          exact ⟨by simp [hrkm.1], ⟨by simp, by simp; omega⟩, rkN⟩
        rw [if_pos rfl]
        by_cases c2 : 1 < (st : Int)
        · rw [if_pos c2]
          obtain ⟨r1, t2, ht2⟩ : ∃ r1 t2, tl0 = r1 :: t2 := by
            cases tl0 with
            | nil => rw [ht0] at hlen; simp at hlen; omega
            | cons a b => exact ⟨a, b, rfl⟩
          have hr1 := rows r1 (by rw [ht0, ht2]; simp)
          have hl2 : t2.length + 2 = st := by rw [← hlen, ht0, ht2]; simp
          have hR := refuse_at (A := A) (t := [rk ++ [none]]) (sg := sg + 1) (p := gd r1) (rest := t2.map gd) one (.inl ⟨by simp, by simp [gd, hr1.1]⟩) (rw_gd hr1.2.1.1 hr1.2.1.2 hr1.2.2) (fun q hq => by
            obtain ⟨r, hr, rfl⟩ := List.mem_map.mp hq
            have h1 := rows r (by rw [ht0, ht2]; simp [hr])
            exact rw_gd h1.2.1.1 h1.2.1.2 h1.2.2) (by simp; omega)
          have := h ([rowS (rk ++ [none])] ++ rowS r1 :: t2.map rowS) 1 (by rw [List.map_map] at hR; exact hR) (by simp; omega) fun x hx => by
            simp only [List.cons_append, List.nil_append, List.mem_cons] at hx
            rcases hx with rfl | rfl | hx
            · exact lN
            · exact rowsL _ (by rw [ht0, ht2]; simp)
            · exact rowsL _ (by rw [ht0, ht2]; simp only [List.map_cons, List.mem_cons]; exact .inr (.inr hx))
          have e : ([rowS (rk ++ [none])] ++ rowS r1 :: t2.map rowS).map D.str = (((t.take 0).map fun r => D.str (rowS r)) ++ D.str (rowS (rk ++ [none])) :: ((t.drop (0 + 1)).map fun r => D.str (rowS r))) := by
            rw [ht0, ht2]
            simp
          rw [e] at this
          simpa using this
        · rw [if_neg c2]
          have hst1 : st = 1 := by omega
          have ht1 : t = [rk] := by
            rw [ht0] at hlen ⊢
            simp at hlen
            have : tl0 = [] := List.eq_nil_of_length_eq_zero (by omega)
            rw [this]
          have hR := refuse_at (A := A) (t := [rk ++ [none]]) (sg := sg + 1) (p := gd (List.replicate (sg + 2) none)) (rest := []) one (.inl ⟨by simp, by simp [gd]⟩) rowD (fun q hq => nomatch hq) (by simp)
          have := h [rowS (rk ++ [none]), rowS (List.replicate (sg + 2) none)] 1 hR (by simp) fun x hx => by
            simp only [List.mem_cons, List.not_mem_nil, or_false] at hx
            rcases hx with rfl | rfl
            · exact lN
            · exact lDD
          rw [ht1] at this ⊢
          have hlr := rowl rk hrkm.2.1.2 hrkm.2.2
          simp at this ⊢
          exact ⟨by omega, by omega, by omega, by omega, this⟩
      · rw [if_neg ck]
        have hR := refuse_at (A := A) (t := t.take k) (sg := sg) (p := gd (rk ++ [none])) (rest := (t.drop (k + 1)).map gd ++ [gd (List.replicate (sg + 2) none)]) take_r (.inl ⟨by intro z; have := congrArg List.length z; rw [List.length_take] at this; simp only [List.length_nil] at this; omega, by simp [gd, hrkm.1]⟩) rowN (fun q hq => by
          rcases List.mem_append.mp hq with hq | hq
          · exact drop_r _ q hq
          · simp at hq; subst hq; exact rowD) (by simp; omega)
        rw [List.length_take, Nat.min_eq_left (by omega), List.map_append, List.map_map] at hR
        have := h ((t.take k).map rowS ++ rowS (rk ++ [none]) :: ((t.drop (k + 1)).map rowS ++ [rowS (List.replicate (sg + 2) none)])) k hR (by simp; omega) fun x hx => by
          rcases List.mem_append.mp hx with hx | hx
          · exact takeL x hx
          · rcases List.mem_cons.mp hx with rfl | hx
            · exact lN
            · rcases List.mem_append.mp hx with hx | hx
              · exact dropL _ x hx
              · simp at hx; subst hx; exact lDD
        have hlr := rowl r0 hr0m.2.1.2 hr0m.2.2
        have ek : (if (k : Int) < 1 then 1 else (k : Int)) = (k : Int) := by rw [if_neg (by omega)]
        rw [ek]
        simp at this ⊢
        exact ⟨by omega, by omega, by omega, by omega, this⟩
    · rw [if_neg c1]
      have hR := refuse_at (A := A) (t := t.take k) (sg := sg) (p := [("" : Str)]) (rest := (t.drop k).map gd) take_r (.inr emp_no) rw_emp (drop_r k) (by simp; omega)
      rw [List.length_take, Nat.min_eq_left (by omega), List.map_map, emp_j] at hR
      have := h ((t.take k).map rowS ++ ("" : Str) :: (t.drop k).map rowS) k hR (by simp; omega) fun x hx => by
        rcases List.mem_append.mp hx with hx | hx
        · exact takeL x hx
        · rcases List.mem_cons.mp hx with rfl | hx
          · exact empL
          · exact dropL _ x hx
      refine ⟨by omega, by omega, ?_⟩
      have e : ((t.take k).map rowS ++ ("" : Str) :: (t.drop k).map rowS).map D.str = List.take k (t.map fun r => D.str (rowS r)) ++ D.str (Str.ofString "") :: List.drop k (t.map fun r => D.str (rowS r)) := by
        simp
        rfl
      rw [e] at this
      exact this
end My1

namespace My1
open My
open PySem PySem.Spec PyProof.Rows L2 VL
local macro_rules | `(tactic| simp $[[$args,*]]? $[$loc]?) => `(tactic| simp -implicitDefEqProofs $[[$args,*]]? $[$loc]?)
local macro_rules | `(tactic| simpa $[[$args,*]]? using $e) => `(tactic| simpa -implicitDefEqProofs $[[$args,*]]? using $e)
open TL PySem.StrLaws PySem.Builtin.Str
theorem tabG_no {t : Tab} {sg : Nat} {r : List Ent} {e : Ent} (hl : ∀ x ∈ t, x.length = sg) (hr : r ∈ t) (he : e ∈ r) (hb : entG (t.length : Int) (sg : Int) (entD e) = false) : tabG (rwE t) = false := by
  cases c : tabG (rwE t) with
  | false => rfl
  | true =>
    cases t with
    | nil => cases hr
    | cons r0 rs =>
      unfold rwE tabG at c
      simp only [List.map_cons, Bool.and_eq_true, List.all_eq_true, decide_eq_true_eq] at c
      have h1 := (c.2 (r.map entD) (by
        have : r.map entD ∈ (r0 :: rs).map (·.map entD) := List.mem_map.mpr ⟨r, hr, rfl⟩
        simpa using this)).2 (entD e) (List.mem_map.mpr ⟨_, he, rfl⟩)
      simp only [List.length_cons, List.length_map, hl r0 (by simp)] at h1
      simp only [List.length_cons] at hb
      rw [hb] at h1
      cases h1
theorem d__law_wrong (A : Cs) (ds : List D) (P : Pf) (h : W__law_wrong A ds P) : w__law_wrong A (endsOf [.F, .P (.L .F), .F] ds P) (zr [.F, .P (.L .F), .F] ds ++ List.replicate 8 none) := by
  obtain ⟨ns, a, t, st, sg, rfl, ha, ht, hs, h⟩ := h
  simp only [zr_c, zr_n, List.replicate_succ, List.replicate_zero, List.cons_append, List.nil_append]
  unfold w__law_wrong
  have hlen := ht.len
  have hst := ht.1
  have hsg := ht.2
  have hcd : ∀ m n : Int, 0 < n → n < 100000 → CDiv m n := fun m n h1 h2 => ⟨by omega, by omega⟩
  simp [tabL]
  refine ⟨⟨by omega, by omega⟩, fun m hm0 hm1 => ?_⟩
  simp
  refine lcO_mapA (xs := t) (f := rowL) (G := rowL) ?_ fun r hr acc hacc => ?_
  · obtain ⟨r0, hr0⟩ : ∃ r0, t[0]? = some r0 := ⟨t[0]'(by omega), List.getElem?_eq_getElem (by omega)⟩
    have h0 := (ht.row r0 (List.mem_of_getElem? hr0)).1
    have hat : L2.atI (t.map rowL) 0 = some (rowL r0) := by
      rw [atI_of (by omega) (by simp; omega)]
      simp [hr0]
    obtain ⟨k, hk⟩ : ∃ k : Nat, m % (st : Int) = (k : Int) := ⟨(m % (st : Int)).toNat, by have := Int.emod_nonneg m (show (st : Int) ≠ 0 by omega); omega⟩
    have hkl : k < st := by
      have := Int.emod_lt_of_pos m (show (0 : Int) < st by omega)
      omega
    obtain ⟨j, hj⟩ : ∃ j : Nat, m / 5 % (sg : Int) = (j : Int) := ⟨(m / 5 % (sg : Int)).toNat, by have := Int.emod_nonneg (m / 5) (show (sg : Int) ≠ 0 by omega); omega⟩
    have hjl : j < sg := by
      have := Int.emod_lt_of_pos (m / 5) (show (0 : Int) < sg by omega)
      omega
    obtain ⟨rk, hrk⟩ : ∃ rk, t[k]? = some rk := ⟨t[k]'(by omega), List.getElem?_eq_getElem (by omega)⟩
    have hrkm := ht.row rk (List.mem_of_getElem? hrk)
    have hix0 : L2.ixN st 0 = some 0 := by unfold L2.ixN; simp [hst]
    have hixk : L2.ixN st (k : Int) = some k := by unfold L2.ixN; simp [hkl]
    have hixj : L2.ixN sg (j : Int) = some j := by unfold L2.ixN; simp [hjl]
    obtain ⟨F, hF, hF1, hF2⟩ : ∃ F : Int, L2.atI [D.int 1, D.int 2, D.int 1000000000, D.int 10000000000000000000000000000000000000000] (m / 100 % 4) = some (.int F) ∧ 1 ≤ F ∧ F ≤ 10000000000000000000000000000000000000000 := by
      have q0 := Int.emod_nonneg (m / 100) (show (4 : Int) ≠ 0 by omega)
      have q1 := Int.emod_lt_of_pos (m / 100) (show (0 : Int) < 4 by omega)
      have : m / 100 % 4 = 0 ∨ m / 100 % 4 = 1 ∨ m / 100 % 4 = 2 ∨ m / 100 % 4 = 3 := by omega
      rcases this with e | e | e | e <;> rw [e]
      · exact ⟨1, rfl, by omega, by omega⟩
      · exact ⟨2, rfl, by omega, by omega⟩
      · exact ⟨1000000000, rfl, by omega, by omega⟩
      · exact ⟨10000000000000000000000000000000000000000, rfl, by omega, by omega⟩
    have hbig : (10000000000000000000000000000000000000000 : Int) + 1000 < big := by decide
    obtain ⟨e, he, hef, heb⟩ : ∃ e : Ent, L2.atI [D.tup [D.int (sg : Int), D.str (Str.ofString "l"), D.int 0], D.tup [D.int 0, D.str (Str.ofString "r"), D.int (st : Int)], D.tup [D.int ((sg : Int) - 1 + F), D.str (Str.ofString "r"), D.int 0], D.tup [D.int 0, D.str (Str.ofString "l"), D.int ((st : Int) - 1 + F)]] (m / 25 % 4) = some (entD e) ∧ EntF e ∧ entG (st : Int) (sg : Int) (entD e) = false := by
      have q0 := Int.emod_nonneg (m / 25) (show (4 : Int) ≠ 0 by omega)
      have q1 := Int.emod_lt_of_pos (m / 25) (show (0 : Int) < 4 by omega)
      have : m / 25 % 4 = 0 ∨ m / 25 % 4 = 1 ∨ m / 25 % 4 = 2 ∨ m / 25 % 4 = 3 := by omega
      rcases this with e | e | e | e <;> rw [e]
      · exact ⟨some ((sg : Int), false, 0), rfl, ⟨⟨by omega, by omega⟩, by omega, by omega⟩, by simp [entD, entG, numB]⟩
      · exact ⟨some (0, true, (st : Int)), rfl, ⟨⟨by omega, by omega⟩, by omega, by omega⟩, by simp [entD, entG, numB]⟩
      · exact ⟨some ((sg : Int) - 1 + F, true, 0), rfl, ⟨⟨by omega, by omega⟩, by omega, by omega⟩, by simp [entD, entG, numB]; intro; omega⟩
      · exact ⟨some (0, false, (st : Int) - 1 + F), rfl, ⟨⟨by omega, by omega⟩, by omega, by omega⟩, by simp [entD, entG, numB]; intros; omega⟩
    have ht0 : t[0]?.map rowL = some (rowL r0) := by rw [hr0]; rfl
    have htk : t[k]?.map rowL = some (rowL rk) := by rw [hrk]; rfl
    have lD0 : lenD (rowL r0) = some sg := by simp [rowL, h0]
    simp [hlen, hk, hat, h0]
    simp only [hix0, optK_s, ht0, lD0, hF]
    simp [he, hixk, htk, hj, rowL, hrkm.1, hixj]
    refine ⟨hst, hcd _ _ (by omega) (by omega), hsg, ⟨by decide, by decide⟩, ⟨by decide, by decide⟩, hcd _ _ (by omega) (by omega), hcd _ _ (by omega) (by omega), ?_⟩
    have hf := ht.f
    have hrows : ∀ r ∈ t.set k (rk.set j e), r.length = sg ∧ ∀ x ∈ r, EntF x := fun r hr => by
      rcases List.mem_or_eq_of_mem_set hr with hr | rfl
      · exact ⟨(ht.row r hr).1, (hf.row r hr).2⟩
      · refine ⟨by simp [hrkm.1], fun x hx => ?_⟩
        rcases List.mem_or_eq_of_mem_set hx with hx | rfl
        · exact (hf.row rk (List.mem_of_getElem? hrk)).2 x hx
        · exact hef
    have hW : WrT (t.set k (rk.set j e)) st sg := ⟨⟨hst, hs.1⟩, ⟨hsg, hs.2⟩, by simp [hlen], hrows, tabG_no (r := rk.set j e) (e := e) (fun r hr => (hrows r hr).1) (List.mem_set (by omega) _) (List.mem_set (by omega) _) (by rw [List.length_set, hlen]; exact heb)⟩
    have := h _ hW
    have eT : tabL (t.set k (rk.set j e)) = .lst ((t.map rowL).set k (.lst ((rk.map entD).set j (entD e)))) := by
      simp [tabL, rowL, List.map_set]
    rw [eT] at this
    exact this
  · have := (ht.row r hr).1
    have := ht.sgS
    simp [rowL]
    omega
end My1

namespace My1
open My
open PySem PySem.Spec PyProof.Rows L2 VL
local macro_rules | `(tactic| simp $[[$args,*]]? $[$loc]?) => `(tactic| simp -implicitDefEqProofs $[[$args,*]]? $[$loc]?)
local macro_rules | `(tactic| simpa $[[$args,*]]? using $e) => `(tactic| simpa -implicitDefEqProofs $[[$args,*]]? using $e)
open TL PySem.StrLaws PySem.Builtin.Str
def w__law_one_14 (A : Cs) : DS :=
  wSeq (wSet 10 (wFz (wCall [.F] (W__law_told A) [] (wCons (wVar 4) (wNil))))) <|
  wSeq (wIfS (wOr (wT (wOp oNe (wOp oIx (wVar 10) (wC (.int 0))) (wC (.str "read")))) (wNot (wT (wIsC A.C_Machine (wOp oIx (wVar 10) (wC (.int 1))))))) (wRet (wC (.bl false))) (wNext)) <|
  wRet (wCall [.F, .F] (W__law_sameN A 6) [] (wCons (wFld A.C_Machine "table" 0 (wOp oIx (wVar 10) (wC (.int 1)))) (wCons (wCB oTuple (wCons (wLc (wIt (wVar 3)) (wgN 8) (wYes) (wCB oTuple (wCons (wVar 8) (wNil))) [8] []) (wNil))) (wNil))))
def w__law_one_11 (A : Cs) : DS :=
  wSeq (wSet 9 (wFz (wCall [.F] (W__law_text A) [] (wCons (wCall [.F, .P (.L .F), .F] (W__law_wrong A) [] (wCons (wVar 0) (wCons (wVar 1) (wCons (wVar 3) (wNil))))) (wNil))))) <|
  wSeq (wIfS (wNot (wT (wCall [.F, .F] (W__law_sameN A 6) [] (wCons (wCall [.F] (W__law_told A) [] (wCons (wVar 9) (wNil))) (wCons (wTup (wCons (wC (.str "machine")) (wCons (wC (.int 0)) (wNil)))) (wNil)))))) (wRet (wC (.bl false))) (wNext)) <|
  wSeq (wIfS (wOr (wNot (wT (wCall [.F, .F] (W__law_sameN A 6) [] (wCons (wCall [.F] (W__law_told A) [] (wCons (wOp oAdd (wVar 9) (wC (.str "\n"))) (wNil))) (wCons (wTup (wCons (wC (.str "text")) (wCons (wCB oLen (wCons (wVar 5) (wNil))) (wNil)))) (wNil)))))) (wNot (wT (wCall [.F, .F] (W__law_sameN A 6) [] (wCons (wCall [.F] (W__law_told A) [] (wCons (wC (.str "")) (wNil))) (wCons (wTup (wCons (wC (.str "text")) (wCons (wC (.int 0)) (wNil)))) (wNil))))))) (wRet (wC (.bl false))) (wNext)) <| w__law_one_14 A
def w__law_one_8 (A : Cs) : DS :=
  wSeq (wIfS (wNot (wT (wCall [.F, .F] (W__law_sameN A 6) [] (wCons (wCall [.F] (W__law_told A) [] (wCons (wJoin "\n" (wVar 7)) (wNil))) (wCons (wTup (wCons (wC (.str "text")) (wCons (wVar 6) (wNil)))) (wNil)))))) (wRet (wC (.bl false))) (wNext)) <|
  wSeq (wAsg (wCall [.F, .P (.L .F), .F] (W__law_more A) [] (wCons (wVar 0) (wCons (wVar 1) (wCons (wVar 5) (wNil))))) (wgTup 2 (wgCons (wgN 7) (wgCons (wgN 8) (wgNil))))) <|
  wSeq (wIfS (wNot (wT (wCall [.F, .F] (W__law_sameN A 6) [] (wCons (wCall [.F] (W__law_told A) [] (wCons (wJoin "\n" (wVar 7)) (wNil))) (wCons (wTup (wCons (wC (.str "text")) (wCons (wVar 8) (wNil)))) (wNil)))))) (wRet (wC (.bl false))) (wNext)) <| w__law_one_11 A
theorem w__law_one_eq (A : Cs) : w__law_one A = (wSeq (wSet 2 (wFz (wCall [.F, .P (.L .F)] (W__law_nextR A) [] (wCons (wVar 0) (wCons (wVar 1) (wNil)))))) <|
  wSeq (wSet 3 (wFz (wCall [.F, .P (.L .F), .F, .F] (W__law_tableR A) [] (wCons (wVar 0) (wCons (wVar 1) (wCons (wOp oAdd (wC (.int 1)) (wOp (oI (fun _ j => 0 < j) fun i j => i % j) (wVar 2) (wC (.int 4)))) (wCons (wOp oAdd (wC (.int 1)) (wOp (oI (fun _ j => 0 < j) fun i j => i % j) (wOp (oI CDiv fun i j => i / j) (wVar 2) (wC (.int 4))) (wC (.int 4)))) (wNil)))))))) <|
  wSeq (wSet 4 (wFz (wCall [.F] (W__law_text A) [] (wCons (wVar 3) (wNil))))) <|
  wSeq (wSet 5 (wFz (wSM oSplit (wVar 4) (wC (.str "\n"))))) <|
  wSeq (wSet 6 (wFz (wOp (oI (fun _ j => 0 < j) fun i j => i % j) (wCall [.F, .P (.L .F)] (W__law_nextR A) [] (wCons (wVar 0) (wCons (wVar 1) (wNil)))) (wCB oLen (wCons (wVar 5) (wNil)))))) <|
  wSeq (wSet 7 (wCB oList (wCons (wVar 5) (wNil)))) <|
  wSeq (wSub (wCall [.F, .P (.L .F), .F] (W__law_bad_row A) [] (wCons (wVar 0) (wCons (wVar 1) (wCons (wOp oIx (wVar 5) (wVar 6)) (wNil))))) (wVar 7) (wVar 6)) <|
  wSeq (wIfS (wAnd (wT (wOp oEq (wOp (oI (fun _ j => 0 < j) fun i j => i % j) (wOp (oI CDiv fun i j => i / j) (wVar 2) (wC (.int 16))) (wC (.int 2))) (wC (.int 0)))) (wT (wOp (oB0 fun i j => decide (i < j)) (wOp oAdd (wVar 6) (wC (.int 1))) (wCB oLen (wCons (wVar 5) (wNil)))))) (wSub (wCall [.F, .P (.L .F), .F] (W__law_bad_row A) [] (wCons (wVar 0) (wCons (wVar 1) (wCons (wOp oIx (wVar 5) (wOp oAdd (wVar 6) (wC (.int 1)))) (wNil))))) (wVar 7) (wOp oAdd (wVar 6) (wC (.int 1)))) (wNext)) <| w__law_one_8 A) := rfl

theorem told_i {A : Cs} {P : Pf} {a : Str} (h : (∃ (t : Tab) (st sg : Nat), ReadsTo a t st sg ∧ P.ok (.fz, .tup [.str "read", machD A t]) [.str a]) ∨ (∃ i : Nat, Refuses A a A.C_NoText [(("line" : Str), D.int i)] ∧ P.ok (.fz, .tup [.str "text", .int i]) [.str a]) ∨ (Refuses A a A.C_NoMachine [] ∧ P.ok (.fz, .tup [.str "machine", .int 0]) [.str a])) : W__law_told A [.str a] P := ⟨a, rfl, h⟩
theorem shN_two {x : Str} {i : Int} : shN 5 (.tup [.str x, .int i]) = true := rfl
theorem shN_tabT {t : Tab} (hl : t.length ≤ 1000) (h2 : ∀ r ∈ t, r.length ≤ 1000) : shN 5 (tabT t) = true := by
  unfold tabT
  simp only [shN, Bool.and_eq_true, decide_eq_true_eq, List.length_map]
  refine ⟨by omega, List.all_eq_true.mpr fun x hx => ?_⟩
  obtain ⟨r, hr, rfl⟩ := List.mem_map.mp hx
  have := h2 r hr
  unfold rowT
  simp only [shN, Bool.and_eq_true, decide_eq_true_eq, List.length_map]
  refine ⟨by omega, List.all_eq_true.mpr fun x hx => ?_⟩
  obtain ⟨e, he, rfl⟩ := List.mem_map.mp hx
  cases e with
  | none => rfl
  | some x =>
    obtain ⟨w, r, s⟩ := x
    simp [entD, shN]
theorem wr_f {t : Tab} {st sg : Nat} (h : WrT t st sg) : TabF t := ⟨fun e => by have := h.len; rw [e] at this; simp at this; have := h.hst.1; omega, fun r hr => ⟨fun e => by have := (h.row r hr).1; rw [e] at this; simp at this; have := h.hsg.1; omega, (h.row r hr).2⟩⟩
theorem wr_rows {t : Tab} {st sg : Nat} (h : WrT t st sg) : ∀ r ∈ t, r.length = sg ∧ (r ≠ [] ∧ r.length ≤ 6) ∧ ∀ e ∈ r, EntF e := fun r hr => ⟨(h.row r hr).1, ⟨((wr_f h).row r hr).1, by have := (h.row r hr).1; have := h.hsg.2; omega⟩, (h.row r hr).2⟩
theorem wr_no {A : Cs} {t : Tab} {st sg : Nat} (h : WrT t st sg) : Refuses A (tabS t) A.C_NoMachine [] := by
  have hr := wr_rows h
  have hl := h.len
  have hs := h.hst
  obtain ⟨h1, h2⟩ := small_ok (ps := t.map gd) (by simpa using (wr_f h).ne) (by simp; omega) fun r hr' => by
    obtain ⟨x, hx, rfl⟩ := List.mem_map.mp hr'
    exact rw_gd (hr x hx).2.1.1 (hr x hx).2.1.2 (hr x hx).2.2
  exact ⟨t, sg, [], by rw [List.append_nil, tabS_P], ⟨by rw [List.append_nil]; exact h1, by rw [List.append_nil]; exact h2, fun r hr' => h.row r hr'⟩, .inl ⟨rfl, h.bad, rfl, rfl⟩⟩
theorem emp_j : Txt.join (" " : Str) [("" : Str)] = ("" : Str) := join_one
theorem wr_end {A : Cs} {t : Tab} {st sg : Nat} (h : WrT t st sg) : Refuses A (tabS t ++ ("\n" : Str)) A.C_NoText [(("line" : Str), D.int st)] := by
  have hl := h.len
  have hs := h.hst
  have := refuse_at (A := A) (t := t) (sg := sg) (p := [("" : Str)]) (rest := []) (wr_rows h) (.inr emp_no) rw_emp (fun q hq => nomatch hq) (by simp; omega)
  rw [emp_j, hl] at this
  have e : Txt.join ("\n" : Str) (t.map rowS ++ [("" : Str)]) = tabS t ++ ("\n" : Str) := by
    rw [join_snoc (by simpa using (wr_f h).ne)]
    exact ext_tl (by rw [tl_append]; show _ ++ [] = _; rw [List.append_nil]; rfl)
  rw [← e]
  exact this
theorem emp_text {A : Cs} : Refuses A ("" : Str) A.C_NoText [(("line" : Str), D.int 0)] := by
  have := refuse_at (A := A) (t := []) (sg := 0) (p := [("" : Str)]) (rest := []) (fun r hr => nomatch hr) (.inr emp_no) rw_emp (fun q hq => nomatch hq) (by simp)
  rw [emp_j] at this
  have e : Txt.join ("\n" : Str) ([].map rowS ++ [("" : Str)]) = ("" : Str) := join_one
  rw [← e]
  exact this
section
variable {A : Cs} {P : Pf} {ns : List Int} {a m : Int} {t : Tab} {st sg : Nat} {d0 : D} {rs : List D} {k : Int}
theorem one_14 (ht : TabOk t st sg) (hs : st ≤ 4 ∧ sg ≤ 4) {d7 d8 d9 : D} (h : P.ok (.fz, .bl true) [.scr ns, .lst [.int a]]) :
    w__law_one_14 A (endsOf [.F, .P (.L .F)] [.scr ns, d0] P) [some (.F, .scr ns), some (.P (.L .F), .lst [.int a]), some (.F, .int m), some (.F, tabL t), some (.F, .str (tabS t)), some (.F, .lst rs), some (.F, .int k), some (.F, d7), some (.F, d8), some (.F, d9), none] := by
  unfold w__law_one_14
  have hlen := ht.len
  have hl : ∀ r ∈ t, r.length ≤ sg := fun r hr => by rw [(ht.row r hr).1]; exact Nat.le_refl _
  have hz := shN_tabT (t := t) (by omega) fun r hr => by have := hl r hr; omega
  simp
  refine told_i (.inl ⟨t, st, sg, ⟨rfl, ht, by omega, by omega⟩, ?_⟩)
  simp
  refine ⟨rfl, ?_⟩
  show lcK (t.map rowL) _ _ _ _ _ _ _
  refine lc_mapA (xs := t) (f := rowL) (G := rowT) ?_ fun r hr acc hacc => ?_
  · refine sameN_i (x := tabT t) hz ?_
    simp
    exact h
  · simp [rowL, rowT]
    omega
theorem one_11 (ht : TabOk t st sg) (hs : st ≤ 4 ∧ sg ≤ 4) (hrs : rs.length = st) (ha : 0 ≤ a ∧ a ≤ 800000000) {d7 d8 : D} (h : ∀ a' : Int, a ≤ a' → a' ≤ a + 10 → P.ok (.fz, .bl true) [.scr ns, .lst [.int a']]) :
    w__law_one_11 A (endsOf [.F, .P (.L .F)] [.scr ns, d0] P) [some (.F, .scr ns), some (.P (.L .F), .lst [.int a]), some (.F, .int m), some (.F, tabL t), some (.F, .str (tabS t)), some (.F, .lst rs), some (.F, .int k), some (.F, d7), some (.F, d8), none, none] := by
  unfold w__law_one_11
  have tail := fun (a' : Int) (d9 : D) h' => one_14 (A := A) (P := P) (ns := ns) (a := a') (m := m) (t := t) (st := st) (sg := sg) (d0 := d0) (rs := rs) (k := k) ht hs (d7 := d7) (d8 := d8) (d9 := d9) h'
  generalize w__law_one_14 A = tl14 at *
  simp
  refine ⟨ns, a, t, st, sg, rfl, ⟨by omega, by omega⟩, ht, hs, fun t' hW => ?_⟩
  have hl := hW.len
  have hs1 := hW.hst
  have hs2 := hW.hsg
  simp
  have hrl : ∀ r ∈ t', r.length ≤ sg := fun r hr => by rw [(hW.row r hr).1]; exact Nat.le_refl _
  refine ⟨t', sg, rfl, wr_f hW, ⟨by omega, by omega⟩, hrl, ?_⟩
  simp
  refine told_i (.inr (.inr ⟨wr_no hW, ?_⟩))
  simp
  refine sameN_i shN_two ?_
  have htl := tabS_len (wr_f hW) hrl
  have hm : t'.length * (sg * 122 + 1) ≤ 4 * (4 * 122 + 1) := Nat.mul_le_mul (by omega) (by omega)
  have l1 : (Str.ofString "\n").length = 1 := by decide +kernel
  simp [hrs, l1]
  refine ⟨by omega, ?_⟩
  refine told_i (.inr (.inl ⟨st, wr_end hW, ?_⟩))
  simp [hrs]
  refine sameN_i shN_two ?_
  simp
  refine told_i (.inr (.inl ⟨0, emp_text, ?_⟩))
  simp
  refine sameN_i shN_two ?_
  simp
  exact tail (a + 1) (.str (tabS t')) (h (a + 1) (by omega) (by omega))
theorem strsOf_sum {rs : List Str} (h1 : rs.length ≤ 20) (h2 : ∀ x ∈ rs, x.length ≤ 2000) : (rs.map (·.length)).sum + rs.length * 1 ≤ 100000 := by
  have e : (rs.map (·.length)).sum ≤ rs.length * 2000 := sum_le fun x hx => h2 x hx
  have : rs.length * 2000 ≤ 20 * 2000 := Nat.mul_le_mul_right _ h1
  omega
theorem one_8 {q : List Str} {k : Nat} (ht : TabOk t st sg) (hs : st ≤ 4 ∧ sg ≤ 4) (ha : 0 ≤ a ∧ a ≤ 700000000) (hR : Refuses A (Txt.join ("\n" : Str) q) A.C_NoText [(("line" : Str), D.int k)]) (hq : q.length ≤ 20) (hq2 : ∀ x ∈ q, x.length ≤ 2000) (h : ∀ a' : Int, a ≤ a' → a' ≤ a + 20 → P.ok (.fz, .bl true) [.scr ns, .lst [.int a']]) :
    w__law_one_8 A (endsOf [.F, .P (.L .F)] [.scr ns, d0] P) [some (.F, .scr ns), some (.P (.L .F), .lst [.int a]), some (.F, .int m), some (.F, tabL t), some (.F, .str (tabS t)), some (.F, .lst (t.map fun r => .str (rowS r))), some (.F, .int k), some (.L .F, .lst (q.map .str)), none, none, none] := by
  unfold w__law_one_8
  have tail := fun (a' : Int) (d7 d8 : D) h1 h2 => one_11 (A := A) (P := P) (ns := ns) (a := a') (m := m) (t := t) (st := st) (sg := sg) (d0 := d0) (rs := t.map fun r => .str (rowS r)) (k := (k : Int)) ht hs (by simp [ht.len]) h1 (d7 := d7) (d8 := d8) h2
  generalize w__law_one_11 A = tl11 at *
  have l1 : (Str.ofString "\n").length = 1 := by decide +kernel
  simp
  rw [strsOf_str]
  simp only [optK_s, l1]
  refine ⟨strsOf_sum hq hq2, ?_⟩
  refine told_i (.inr (.inl ⟨k, hR, ?_⟩))
  simp
  refine sameN_i shN_two ?_
  simp
  refine ⟨ns, a, t, st, sg, rfl, ⟨by omega, by omega⟩, ht, hs, fun rs' k' hR' hq' hq2' => ?_⟩
  simp
  rw [strsOf_str]
  simp only [optK_s, l1]
  refine ⟨strsOf_sum hq' hq2', ?_⟩
  refine told_i (.inr (.inl ⟨k', hR', ?_⟩))
  simp
  refine sameN_i shN_two ?_
  simp
  exact tail (a + 1) _ _ ⟨by omega, by omega⟩ fun a' g1 g2 => h a' (by omega) (by omega)
end
end My1

namespace My1
open My
open PySem PySem.Spec PyProof.Rows L2 VL
local macro_rules | `(tactic| simp $[[$args,*]]? $[$loc]?) => `(tactic| simp -implicitDefEqProofs $[[$args,*]]? $[$loc]?)
local macro_rules | `(tactic| simpa $[[$args,*]]? using $e) => `(tactic| simpa -implicitDefEqProofs $[[$args,*]]? using $e)
open TL PySem.StrLaws PySem.Builtin.Str
theorem bad_i {A : Cs} {P : Pf} {ns : List Int} {a : Int} {r : List Ent} (ha : 0 ≤ a ∧ a ≤ 900000000) (hr : r ≠ [] ∧ r.length ≤ 4) (hf : ∀ e ∈ r, EntF e) (h : ∀ p : List Str, BadP p → P.ok (.fz, .str (Txt.join (" " : Str) p)) [.scr ns, .lst [.int (a + 1)], .str (rowS r)]) : W__law_bad_row A [.scr ns, .lst [.int a], .str (rowS r)] P := ⟨ns, a, r, rfl, ha, hr, hf, h⟩
theorem set_app2 {α : Type} : ∀ (l1 l2 : List α) (x y z : α), (l1 ++ x :: y :: l2).set (l1.length + 1) z = l1 ++ x :: z :: l2
  | [], _, _, _, _ => rfl
  | a :: l1, l2, x, y, z => by
    show a :: ((l1 ++ x :: y :: l2).set (l1.length + 1) z) = a :: (l1 ++ x :: z :: l2)
    rw [set_app2 l1]
theorem d__law_one (A : Cs) (ds : List D) (P : Pf) (h : W__law_one A ds P) : w__law_one A (endsOf [.F, .P (.L .F)] ds P) (zr [.F, .P (.L .F)] ds ++ List.replicate 9 none) := by
  obtain ⟨ns, a, rfl, ha, h⟩ := h
  rw [w__law_one_eq]
  have tail := fun (a' m : Int) (t : Tab) (st sg : Nat) (q : List Str) (k : Nat) h1 h2 h3 h4 h5 h6 h7 => one_8 (A := A) (P := P) (ns := ns) (a := a') (m := m) (t := t) (st := st) (sg := sg) (d0 := .lst [.int a]) (q := q) (k := k) h1 h2 h3 h4 h5 h6 h7
  generalize w__law_one_8 A = tl8 at *
  simp
  refine ⟨⟨by omega, by omega⟩, fun m hm0 hm1 => ?_⟩
  simp
  refine ⟨⟨by decide, by decide⟩, ?_⟩
  obtain ⟨st, hst⟩ : ∃ u : Nat, 1 + m % 4 = u := ⟨(1 + m % 4).toNat, by omega⟩
  obtain ⟨sg, hsg⟩ : ∃ v : Nat, 1 + m / 4 % 4 = v := ⟨(1 + m / 4 % 4).toNat, by omega⟩
  rw [hst, hsg]
  refine ⟨ns, a + 1, st, sg, rfl, ⟨by omega, by omega⟩, ⟨by omega, by omega⟩, ⟨by omega, by omega⟩, fun t a' ht g1 g2 => ?_⟩
  have hlen := ht.len
  have hf := ht.f
  have hs : ∀ r ∈ t, r.length ≤ sg := fun r hr => by rw [(ht.row r hr).1]; exact Nat.le_refl _
  have htl := tabS_len hf hs
  have hmul : t.length * (sg * 122 + 1) ≤ 4 * (4 * 122 + 1) := Nat.mul_le_mul (by omega) (by omega)
  have e1 : Txt.split (tabS t) (Str.ofString "\n") = t.map rowS := split_tab hf
  simp
  refine ⟨t, sg, rfl, hf, ⟨by omega, by omega⟩, hs, ?_⟩
  simp [e1]
  refine ⟨by omega, ⟨by omega, by omega⟩, fun m2 hn0 hn1 => ?_⟩
  obtain ⟨k, hk⟩ : ∃ k : Nat, m2 % (st : Int) = (k : Int) := ⟨(m2 % (st : Int)).toNat, by have := Int.emod_nonneg m2 (show (st : Int) ≠ 0 by omega); omega⟩
  have hkl : k < st := by
    have := Int.emod_lt_of_pos m2 (show (0 : Int) < st by omega)
    omega
  have row : ∀ r ∈ t, r.length = sg ∧ (r ≠ [] ∧ r.length ≤ 6) ∧ ∀ e ∈ r, EntF e := fun r hr => ⟨(ht.row r hr).1, ⟨(hf.row r hr).1, by have := (ht.row r hr).1; omega⟩, (hf.row r hr).2⟩
  obtain ⟨rk, hrk⟩ : ∃ rk, t[k]? = some rk := ⟨t[k]'(by omega), List.getElem?_eq_getElem (by omega)⟩
  have hrkm := row rk (List.mem_of_getElem? hrk)
  have hatk : L2.atI (t.map (D.str ∘ rowS)) (k : Int) = some (.str (rowS rk)) := by
    rw [atI_of (by omega) (by simp; omega)]
    simp [hrk]
  have hixk : L2.ixN st (k : Int) = some k := by unfold L2.ixN; simp [hkl]
  simp [hlen, hk, hatk]
  refine ⟨by omega, ?_⟩
  refine bad_i ⟨by omega, by omega⟩ ⟨hrkm.2.1.1, by omega⟩ hrkm.2.2 fun p hp => ?_
  simp [hlen, hixk]
  refine ⟨⟨by decide, by decide⟩, ?_⟩
  have hsg4 : sg ≤ 4 := by omega
  have take_r : ∀ r ∈ t.take k, r.length = sg ∧ (r ≠ [] ∧ r.length ≤ 6) ∧ ∀ e ∈ r, EntF e := fun r hr => row r (List.mem_of_mem_take hr)
  have drop_r : ∀ j, ∀ q ∈ (t.drop j).map gd, RwOk q := fun j q hq => by
    obtain ⟨r, hr, rfl⟩ := List.mem_map.mp hq
    have h1 := row r (List.mem_of_mem_drop hr)
    exact rw_gd h1.2.1.1 h1.2.1.2 h1.2.2
  have takeL : ∀ x ∈ (t.take k).map rowS, x.length ≤ 2000 := fun x hx => by
    obtain ⟨r, hr, rfl⟩ := List.mem_map.mp hx
    exact (rw_gd (take_r r hr).2.1.1 (take_r r hr).2.1.2 (take_r r hr).2.2).l
  have fin : ∀ (a'' : Int) (rest : List (List Str)), (∀ q ∈ rest, RwOk q) → rest.length ≤ 4 → a' + 2 ≤ a'' → a'' ≤ a' + 10 → tl8 (endsOf [Md.F, Md.P (Md.L Md.F)] [D.scr ns, D.lst [D.int a]] P)
      [some (Md.F, D.scr ns), some (.P (.L .F), D.lst [D.int a'']), some (Md.F, D.int m), some (Md.F, tabL t), some (Md.F, D.str (tabS t)), some (Md.F, D.lst (t.map fun r => D.str (rowS r))), some (Md.F, D.int k), some (.L .F, D.lst (((t.take k).map rowS ++ Txt.join (" " : Str) p :: rest.map (Txt.join (" " : Str))).map D.str)), none, none, none] := fun a'' rest hr hl q1 q2 => by
    have hR := refuse_at (A := A) (t := t.take k) (sg := sg) (p := p) (rest := rest) take_r (.inr hp.b) hp.rw hr (by simp; omega)
    rw [List.length_take, Nat.min_eq_left (by omega)] at hR
    refine tail a'' m t st sg _ k ht ⟨by omega, hsg4⟩ ⟨by omega, by omega⟩ hR (by simp; omega) (fun x hx => ?_) fun a3 z1 z2 => h a3 (by omega) (by omega)
    rcases List.mem_append.mp hx with hx | hx
    · exact takeL x hx
    · rcases List.mem_cons.mp hx with rfl | hx
      · exact hp.rw.l
      · obtain ⟨q, hq, rfl⟩ := List.mem_map.mp hx
        exact (hr q hq).l
  have eset : ∀ x : D, (t.map (D.str ∘ rowS)).set k x = (t.take k).map (D.str ∘ rowS) ++ x :: (t.drop (k + 1)).map (D.str ∘ rowS) := fun x => by
    rw [List.set_eq_take_append_cons_drop, if_pos (by simp; omega), List.map_take, List.map_drop]
  have e1q : (t.map (D.str ∘ rowS)).set k (D.str (Txt.join (Str.ofString " ") p)) = ((t.take k).map rowS ++ Txt.join (" " : Str) p :: ((t.drop (k + 1)).map gd).map (Txt.join (" " : Str))).map D.str := by
    rw [eset, List.map_append, List.map_cons, List.map_map, List.map_map, List.map_map]
    rfl
  have one := fin (a' + 1 + 1) ((t.drop (k + 1)).map gd) (drop_r _) (by simp; omega) (by omega) (by omega)
  rw [← e1q] at one
  split
  · split
    · rename_i hk1
      obtain ⟨r2, hr2⟩ : ∃ r2, t[k + 1]? = some r2 := ⟨t[k + 1]'(by omega), List.getElem?_eq_getElem (by omega)⟩
      have hr2m := row r2 (List.mem_of_getElem? hr2)
      have hat2 : L2.atI (t.map (D.str ∘ rowS)) ((k : Int) + 1) = some (.str (rowS r2)) := by
        rw [atI_of (by omega) (by simp; omega)]
        have : ((k : Int) + 1).toNat = k + 1 := by omega
        rw [this, List.getElem?_map, hr2]
        rfl
      have hix2 : L2.ixN st ((k : Int) + 1) = some (k + 1) := by
        unfold L2.ixN
        rw [if_pos (by omega), if_pos (by omega)]
        congr 1
      rw [hat2]
      simp only [optK_s]
      refine bad_i ⟨by omega, by omega⟩ ⟨hr2m.2.1.1, by omega⟩ hr2m.2.2 fun p2 hp2 => ?_
      simp [hlen, hix2]
      have two := fin (a' + 1 + 1 + 1) (p2 :: (t.drop (k + 2)).map gd) (fun q hq => by
        rcases List.mem_cons.mp hq with rfl | hq
        · exact hp2.rw
        · exact drop_r _ q hq) (by simp; omega) (by omega) (by omega)
      have e2q : ((t.map (D.str ∘ rowS)).set k (D.str (Txt.join (Str.ofString " ") p))).set (k + 1) (D.str (Txt.join (Str.ofString " ") p2)) = ((t.take k).map rowS ++ Txt.join (" " : Str) p :: (p2 :: (t.drop (k + 2)).map gd).map (Txt.join (" " : Str))).map D.str := by
        have ed : t.drop (k + 1) = r2 :: t.drop (k + 2) := by
          rw [List.drop_eq_getElem_cons (by omega)]
          congr 1
          exact (List.getElem?_eq_some_iff.mp hr2).2
        have hlk : ((t.take k).map (D.str ∘ rowS)).length = k := by simp; omega
        have e9 := set_app2 ((t.take k).map (D.str ∘ rowS)) ((t.drop (k + 2)).map (D.str ∘ rowS)) (D.str (Txt.join (Str.ofString " ") p)) (D.str (rowS r2)) (D.str (Txt.join (Str.ofString " ") p2))
        rw [hlk] at e9
        rw [eset, ed]
        refine e9.trans ?_
        rw [List.map_append, List.map_cons, List.map_cons, List.map_cons, List.map_map, List.map_map, List.map_map]
        rfl
      rw [← e2q] at two
      exact two
    · exact one
  · exact one
theorem d_law (A : Cs) (ds : List D) (P : Pf) (h : W_law A ds P) : w_law A (endsOf [.F] ds P) (zr [.F] ds ++ List.replicate 2 none) := by
  obtain ⟨ns, rfl, hl, h⟩ := h
  unfold w_law
  simp
  refine ⟨⟨by decide, by decide⟩, by unfold VL.inR; split <;> omega, ?_⟩
  refine for_inv (fun i r => ∃ (a : Int) (x : Option D), r = [some (.F, .scr ns), some (.L .F, .lst [.int a]), fr x] ∧ 0 ≤ a ∧ a ≤ 50000 * i) ⟨0, none, by simp [fr], by omega, by omega⟩ ?_ ?_
  · rintro r ⟨a, x, rfl, g1, g2⟩
    simp
    exact h
  · rintro i d r hd ⟨a, x, rfl, g1, g2⟩
    obtain ⟨hi, rfl⟩ := rangeD_get hd
    have hi4 : i < 8 := by
      revert hi
      split <;> omega
    simp
    refine ⟨ns, a, rfl, ⟨by omega, by omega⟩, fun a' k1 k2 => ?_⟩
    simp
    exact ⟨by omega, by omega⟩
end My1

namespace My1
open My
open PySem PySem.Spec PyProof.Rows L2 VL
def top (i : Nat) : Stmt := PySem.Challenge.pw_tapeproof_k71_spoilt_texts.main.body.getD i (.Pass ⟨0, 0, 0, 0⟩)
abbrev s_NoText_init : Stmt := inClass (top 11) 0
theorem sc_NoText_init : FnScope ["self", "line"] ["self", "line"] (defScope s_NoText_init) := ⟨rfl, rfl, rfl, by decide +kernel, rfl, by decide +kernel, by decide +kernel⟩
abbrev s_is_number : Stmt := top 13
theorem sc_is_number : FnScope ["thing", "many"] ["thing", "many"] (defScope s_is_number) := ⟨rfl, rfl, rfl, by decide +kernel, rfl, by decide +kernel, by decide +kernel⟩
abbrev s_entry_kept : Stmt := top 14
theorem sc_entry_kept : FnScope ["entry", "states", "signs", "write", "way", "later"] ["entry", "states", "signs"] (defScope s_entry_kept) := ⟨rfl, rfl, rfl, by decide +kernel, rfl, by decide +kernel, by decide +kernel⟩
abbrev s_Machine_init : Stmt := inClass (top 15) 0
theorem sc_Machine_init : FnScope ["self", "table", "states", "signs", "made", "line", "entry"] ["self", "table"] (defScope s_Machine_init) := ⟨rfl, rfl, rfl, by decide +kernel, rfl, by decide +kernel, by decide +kernel⟩
abbrev s_is_figures : Stmt := top 19
theorem sc_is_figures : FnScope ["piece"] ["piece"] (defScope s_is_figures) := ⟨rfl, rfl, rfl, by decide +kernel, rfl, by decide +kernel, by decide +kernel⟩
abbrev s_parts_of : Stmt := top 20
theorem sc_parts_of : FnScope ["piece"] ["piece"] (defScope s_parts_of) := ⟨rfl, rfl, rfl, by decide +kernel, rfl, by decide +kernel, by decide +kernel⟩
abbrev s_is_entry : Stmt := top 21
theorem sc_is_entry : FnScope ["piece", "write", "way", "later"] ["piece"] (defScope s_is_entry) := ⟨rfl, rfl, rfl, by decide +kernel, rfl, by decide +kernel, by decide +kernel⟩
abbrev s_entry_from : Stmt := top 22
theorem sc_entry_from : FnScope ["piece", "write", "way", "later"] ["piece"] (defScope s_entry_from) := ⟨rfl, rfl, rfl, by decide +kernel, rfl, by decide +kernel, by decide +kernel⟩
abbrev s_read_machine : Stmt := top 23
theorem sc_read_machine : FnScope ["text", "row", "rows", "table", "line", "pieces", "piece"] ["text"] (defScope s_read_machine) := ⟨rfl, rfl, rfl, by decide +kernel, rfl, by decide +kernel, by decide +kernel⟩
abbrev s__law_nextR : Stmt := top 25
theorem sc__law_nextR : FnScope ["_law_script", "_law_at", "_law_cell", "_law_m"] ["_law_script", "_law_at"] (defScope s__law_nextR) := ⟨rfl, rfl, rfl, by decide +kernel, rfl, by decide +kernel, by decide +kernel⟩
abbrev s__law_sameN : Stmt := top 26
theorem sc__law_sameN : FnScope ["_law_found", "_law_due", "_law_name", "_law_one_here", "_law_other"] ["_law_found", "_law_due"] (defScope s__law_sameN) := ⟨rfl, rfl, rfl, by decide +kernel, rfl, by decide +kernel, by decide +kernel⟩
abbrev s__law_tableR : Stmt := top 27
theorem sc__law_tableR : FnScope ["_law_script", "_law_at", "_law_states", "_law_signs", "_law_table_here", "_law_k", "_law_line", "_law_j", "_law_m", "_law_entry"] ["_law_script", "_law_at", "_law_states", "_law_signs"] (defScope s__law_tableR) := ⟨rfl, rfl, rfl, by decide +kernel, rfl, by decide +kernel, by decide +kernel⟩
abbrev s__law_text : Stmt := top 28
theorem sc__law_text : FnScope ["_law_table_here", "_law_rows", "_law_line", "_law_entry", "_law_pieces"] ["_law_table_here"] (defScope s__law_text) := ⟨rfl, rfl, rfl, by decide +kernel, rfl, by decide +kernel, by decide +kernel⟩
abbrev s__law_told : Stmt := top 29
theorem sc__law_told : FnScope ["_law_text_here", "_law_told_here", "e", "_law_error"] ["_law_text_here"] (defScope s__law_told) := ⟨rfl, rfl, rfl, by decide +kernel, rfl, by decide +kernel, by decide +kernel⟩
abbrev s__law_bad_row : Stmt := top 30
theorem sc__law_bad_row : FnScope ["_law_script", "_law_at", "_law_row", "_law_m", "_law_pieces", "_law_spot", "_law_some"] ["_law_script", "_law_at", "_law_row"] (defScope s__law_bad_row) := ⟨rfl, rfl, rfl, by decide +kernel, rfl, by decide +kernel, by decide +kernel⟩
abbrev s__law_more : Stmt := top 31
theorem sc__law_more : FnScope ["_law_script", "_law_at", "_law_rows", "_law_m", "_law_k", "_law_made"] ["_law_script", "_law_at", "_law_rows"] (defScope s__law_more) := ⟨rfl, rfl, rfl, by decide +kernel, rfl, by decide +kernel, by decide +kernel⟩
abbrev s__law_wrong : Stmt := top 32
theorem sc__law_wrong : FnScope ["_law_script", "_law_at", "_law_table_here", "_law_m", "_law_line", "_law_made", "_law_k", "_law_j", "_law_signs", "_law_states", "_law_far"] ["_law_script", "_law_at", "_law_table_here"] (defScope s__law_wrong) := ⟨rfl, rfl, rfl, by decide +kernel, rfl, by decide +kernel, by decide +kernel⟩
abbrev s__law_one : Stmt := top 33
theorem sc__law_one : FnScope ["_law_script", "_law_at", "_law_m", "_law_table_here", "_law_text_here", "_law_rows", "_law_k", "_law_spoilt", "_law_line", "_law_wrong_here", "_law_back"] ["_law_script", "_law_at"] (defScope s__law_one) := ⟨rfl, rfl, rfl, by decide +kernel, rfl, by decide +kernel, by decide +kernel⟩
abbrev s_law : Stmt := top 34
theorem sc_law : FnScope ["_law_script", "_law_at", "_law_turn"] ["_law_script"] (defScope s_law) := ⟨rfl, rfl, rfl, by decide +kernel, rfl, by decide +kernel, by decide +kernel⟩
structure Ad where
  A : Cs
  a_NoText_init : Addr
  d_NoText_init : FuncData
  a_is_number : Addr
  d_is_number : FuncData
  a_entry_kept : Addr
  d_entry_kept : FuncData
  a_Machine_init : Addr
  d_Machine_init : FuncData
  a_is_figures : Addr
  d_is_figures : FuncData
  a_parts_of : Addr
  d_parts_of : FuncData
  a_is_entry : Addr
  d_is_entry : FuncData
  a_entry_from : Addr
  d_entry_from : FuncData
  a_read_machine : Addr
  d_read_machine : FuncData
  a__law_nextR : Addr
  d__law_nextR : FuncData
  a__law_sameN : Addr
  d__law_sameN : FuncData
  a__law_tableR : Addr
  d__law_tableR : FuncData
  a__law_text : Addr
  d__law_text : FuncData
  a__law_told : Addr
  d__law_told : FuncData
  a__law_bad_row : Addr
  d__law_bad_row : FuncData
  a__law_more : Addr
  d__law_more : FuncData
  a__law_wrong : Addr
  d__law_wrong : FuncData
  a__law_one : Addr
  d__law_one : FuncData
  a_law : Addr
  d_law : FuncData
  v_FIGURES : V
  u_FIGURES : Value
  v_MOST_FIGURES : V
  u_MOST_FIGURES : Value
structure Txt (K : PySem.W.Frag) (mg : Str → Option Value) (D : Ad) : Prop where
  n_ValueError : mg "ValueError" = none
  n_all : mg "all" = none
  n_bool : mg "bool" = none
  n_dict : mg "dict" = none
  n_enumerate : mg "enumerate" = none
  n_int : mg "int" = none
  n_isinstance : mg "isinstance" = none
  n_len : mg "len" = none
  n_list : mg "list" = none
  n_max : mg "max" = none
  n_min : mg "min" = none
  n_range : mg "range" = none
  n_str : mg "str" = none
  n_tuple : mg "tuple" = none
  n_zip : mg "zip" = none
  F_NoText_init : Fun K "__init__" "NoText.__init__" s_NoText_init D.a_NoText_init D.d_NoText_init
  b_NoText_init : Binds K D.d_NoText_init ["self", "line"] []
  ox_NoText : OexC K D.A.C_NoText
  ni_NoText : PySem.W.findIn K (.ref D.A.C_NoText) "__init__" = some (some (.ref D.a_NoText_init))
  nt_NoText : PySem.W.typeIn K (.ref D.a_NoText_init) = some (.type "function")
  xc_NoText : XfC K D.A.C_NoText
  nf_NoText : PySem.W.findIn K (.ref D.A.C_NoText) "line" = some none
  F_is_number : Fun K "is_number" "is_number" s_is_number D.a_is_number D.d_is_number
  b_is_number : Binds K D.d_is_number ["thing", "many"] []
  m_is_number : mg "is_number" = some (.ref D.a_is_number)
  F_entry_kept : Fun K "entry_kept" "entry_kept" s_entry_kept D.a_entry_kept D.d_entry_kept
  b_entry_kept : Binds K D.d_entry_kept ["entry", "states", "signs"] []
  m_entry_kept : mg "entry_kept" = some (.ref D.a_entry_kept)
  F_Machine_init : Fun K "__init__" "Machine.__init__" s_Machine_init D.a_Machine_init D.d_Machine_init
  b_Machine_init : Binds K D.d_Machine_init ["self", "table"] []
  F_is_figures : Fun K "is_figures" "is_figures" s_is_figures D.a_is_figures D.d_is_figures
  b_is_figures : Binds K D.d_is_figures ["piece"] []
  m_is_figures : mg "is_figures" = some (.ref D.a_is_figures)
  F_parts_of : Fun K "parts_of" "parts_of" s_parts_of D.a_parts_of D.d_parts_of
  b_parts_of : Binds K D.d_parts_of ["piece"] []
  m_parts_of : mg "parts_of" = some (.ref D.a_parts_of)
  F_is_entry : Fun K "is_entry" "is_entry" s_is_entry D.a_is_entry D.d_is_entry
  b_is_entry : Binds K D.d_is_entry ["piece"] []
  m_is_entry : mg "is_entry" = some (.ref D.a_is_entry)
  F_entry_from : Fun K "entry_from" "entry_from" s_entry_from D.a_entry_from D.d_entry_from
  b_entry_from : Binds K D.d_entry_from ["piece"] []
  m_entry_from : mg "entry_from" = some (.ref D.a_entry_from)
  F_read_machine : Fun K "read_machine" "read_machine" s_read_machine D.a_read_machine D.d_read_machine
  b_read_machine : Binds K D.d_read_machine ["text"] []
  m_read_machine : mg "read_machine" = some (.ref D.a_read_machine)
  F__law_nextR : Fun K "_law_next" "_law_next" s__law_nextR D.a__law_nextR D.d__law_nextR
  b__law_nextR : Binds K D.d__law_nextR ["_law_script", "_law_at"] []
  m__law_nextR : mg "_law_next" = some (.ref D.a__law_nextR)
  F__law_sameN : Fun K "_law_same" "_law_same" s__law_sameN D.a__law_sameN D.d__law_sameN
  b__law_sameN : Binds K D.d__law_sameN ["_law_found", "_law_due"] []
  m__law_sameN : mg "_law_same" = some (.ref D.a__law_sameN)
  F__law_tableR : Fun K "_law_table" "_law_table" s__law_tableR D.a__law_tableR D.d__law_tableR
  b__law_tableR : Binds K D.d__law_tableR ["_law_script", "_law_at", "_law_states", "_law_signs"] []
  m__law_tableR : mg "_law_table" = some (.ref D.a__law_tableR)
  F__law_text : Fun K "_law_text" "_law_text" s__law_text D.a__law_text D.d__law_text
  b__law_text : Binds K D.d__law_text ["_law_table_here"] []
  m__law_text : mg "_law_text" = some (.ref D.a__law_text)
  F__law_told : Fun K "_law_told" "_law_told" s__law_told D.a__law_told D.d__law_told
  b__law_told : Binds K D.d__law_told ["_law_text_here"] []
  m__law_told : mg "_law_told" = some (.ref D.a__law_told)
  F__law_bad_row : Fun K "_law_bad_row" "_law_bad_row" s__law_bad_row D.a__law_bad_row D.d__law_bad_row
  b__law_bad_row : Binds K D.d__law_bad_row ["_law_script", "_law_at", "_law_row"] []
  m__law_bad_row : mg "_law_bad_row" = some (.ref D.a__law_bad_row)
  F__law_more : Fun K "_law_more" "_law_more" s__law_more D.a__law_more D.d__law_more
  b__law_more : Binds K D.d__law_more ["_law_script", "_law_at", "_law_rows"] []
  m__law_more : mg "_law_more" = some (.ref D.a__law_more)
  F__law_wrong : Fun K "_law_wrong" "_law_wrong" s__law_wrong D.a__law_wrong D.d__law_wrong
  b__law_wrong : Binds K D.d__law_wrong ["_law_script", "_law_at", "_law_table_here"] []
  m__law_wrong : mg "_law_wrong" = some (.ref D.a__law_wrong)
  F__law_one : Fun K "_law_one" "_law_one" s__law_one D.a__law_one D.d__law_one
  b__law_one : Binds K D.d__law_one ["_law_script", "_law_at"] []
  m__law_one : mg "_law_one" = some (.ref D.a__law_one)
  F_law : Fun K "law" "law" s_law D.a_law D.d_law
  b_law : Binds K D.d_law ["_law_script"] []
  m_law : mg "law" = some (.ref D.a_law)
  m_Machine : mg "Machine" = some (.ref D.A.C_Machine)
  cl_Machine : Cls K D.A.C_Machine
  mk_Machine : L2.Mk K D.A.C_Machine D.a_Machine_init
  na_Machine_table : NoAttr K D.A.C_Machine "table"
  ec_NoMachine : ExcC K D.A.C_NoMachine
  ec_NoText : ExcC K D.A.C_NoText
  ic_Machine : C8.InsC K D.A.C_Machine
  ik_NoMachine_NoMachine : PySem.W.kitOne K (.ref D.A.C_NoMachine) (.ref D.A.C_NoMachine) = some true
  ik_NoMachine_NoMove : PySem.W.kitOne K (.ref D.A.C_NoMachine) (.ref D.A.C_NoMove) = some false
  ik_NoMachine_NoNames : PySem.W.kitOne K (.ref D.A.C_NoMachine) (.ref D.A.C_NoNames) = some false
  ik_NoMachine_NoNumber : PySem.W.kitOne K (.ref D.A.C_NoMachine) (.ref D.A.C_NoNumber) = some false
  ik_NoMachine_NoShape : PySem.W.kitOne K (.ref D.A.C_NoMachine) (.ref D.A.C_NoShape) = some false
  ik_NoMachine_NoShot : PySem.W.kitOne K (.ref D.A.C_NoMachine) (.ref D.A.C_NoShot) = some false
  ik_NoMachine_NoStretches : PySem.W.kitOne K (.ref D.A.C_NoMachine) (.ref D.A.C_NoStretches) = some false
  ik_NoMachine_NoText : PySem.W.kitOne K (.ref D.A.C_NoMachine) (.ref D.A.C_NoText) = some false
  ik_NoMachine_NoWidth : PySem.W.kitOne K (.ref D.A.C_NoMachine) (.ref D.A.C_NoWidth) = some false
  ik_NoMachine_TooLong : PySem.W.kitOne K (.ref D.A.C_NoMachine) (.ref D.A.C_TooLong) = some false
  ik_NoText_NoMachine : PySem.W.kitOne K (.ref D.A.C_NoText) (.ref D.A.C_NoMachine) = some false
  ik_NoText_NoMove : PySem.W.kitOne K (.ref D.A.C_NoText) (.ref D.A.C_NoMove) = some false
  ik_NoText_NoNames : PySem.W.kitOne K (.ref D.A.C_NoText) (.ref D.A.C_NoNames) = some false
  ik_NoText_NoNumber : PySem.W.kitOne K (.ref D.A.C_NoText) (.ref D.A.C_NoNumber) = some false
  ik_NoText_NoShape : PySem.W.kitOne K (.ref D.A.C_NoText) (.ref D.A.C_NoShape) = some false
  ik_NoText_NoShot : PySem.W.kitOne K (.ref D.A.C_NoText) (.ref D.A.C_NoShot) = some false
  ik_NoText_NoStretches : PySem.W.kitOne K (.ref D.A.C_NoText) (.ref D.A.C_NoStretches) = some false
  ik_NoText_NoText : PySem.W.kitOne K (.ref D.A.C_NoText) (.ref D.A.C_NoText) = some true
  ik_NoText_NoWidth : PySem.W.kitOne K (.ref D.A.C_NoText) (.ref D.A.C_NoWidth) = some false
  ik_NoText_TooLong : PySem.W.kitOne K (.ref D.A.C_NoText) (.ref D.A.C_TooLong) = some false
  it_NoMachine_ValueError : PySem.W.kitOne K (.ref D.A.C_NoMachine) (.type "ValueError") = some true
  it_NoText_ValueError : PySem.W.kitOne K (.ref D.A.C_NoText) (.type "ValueError") = some true
  m_NoMachine : mg "NoMachine" = some (.ref D.A.C_NoMachine)
  m_NoMove : mg "NoMove" = some (.ref D.A.C_NoMove)
  m_NoNames : mg "NoNames" = some (.ref D.A.C_NoNames)
  m_NoNumber : mg "NoNumber" = some (.ref D.A.C_NoNumber)
  m_NoShape : mg "NoShape" = some (.ref D.A.C_NoShape)
  m_NoShot : mg "NoShot" = some (.ref D.A.C_NoShot)
  m_NoStretches : mg "NoStretches" = some (.ref D.A.C_NoStretches)
  m_NoText : mg "NoText" = some (.ref D.A.C_NoText)
  m_NoWidth : mg "NoWidth" = some (.ref D.A.C_NoWidth)
  m_TapeError : mg "TapeError" = some (.ref D.A.C_TapeError)
  m_TooLong : mg "TooLong" = some (.ref D.A.C_TooLong)
  rs_NoMachine : RsC K D.A.C_NoMachine
  xm_NoMachine_TapeError : PySem.W.exmOne K (.ref D.A.C_NoMachine) (.ref D.A.C_TapeError) = some true
  xm_NoText_TapeError : PySem.W.exmOne K (.ref D.A.C_NoText) (.ref D.A.C_TapeError) = some true
  c_FIGURES : ∀ G, Dt K G D.v_FIGURES (.str "0123456789")
  m_FIGURES : mg "FIGURES" = some D.u_FIGURES
  r_FIGURES : RelV D.v_FIGURES D.u_FIGURES
  c_MOST_FIGURES : ∀ G, Dt K G D.v_MOST_FIGURES (.int 60)
  m_MOST_FIGURES : mg "MOST_FIGURES" = some D.u_MOST_FIGURES
  r_MOST_FIGURES : RelV D.v_MOST_FIGURES D.u_MOST_FIGURES
section
variable {P : Program} {w : World} {K : PySem.W.Frag} {mg : Str → Option Value} {base : Heap} {D : Ad}
theorem ok_NoText_init (T : Txt K mg D) : FnOk P w K mg base (L2.CX P w) 1 D.a_NoText_init D.d_NoText_init ["self", "line"] (spNT D.A.C_NoText "line") := fn_okNT T.F_NoText_init sc_NoText_init T.ox_NoText T.nf_NoText (fun cdv A outer s H E => pss_one (ps_ost (pv 0) (pv 1)))
theorem ok_is_number (T : Txt K mg D) : FnOk P w K mg base (L2.CX P w) 1 D.a_is_number D.d_is_number ["thing", "many"] (spV K [.F, .F] [.F, .F] (W_is_number D.A)) := by
  refine fn_ok T.F_is_number sc_is_number rfl rfl (by decide) (w' := w_is_number D.A) (fun cdv A outer s H E hr => ?_) (fun ds P hl h => d_is_number D.A ds P h)
  unfold w_is_number
  exact qs_one (q_ret (q_and (q_isi "int" T.n_isinstance T.n_int (q_var 0)) (q_and (q_notV (q_isi "bool" T.n_isinstance T.n_bool (q_var 0))) (q_one (q_chain op_le op_lt ok_B0 ok_B0 (q_int) (q_var 0) (q_var 1))))))
theorem ok_entry_kept (T : Txt K mg D) : FnOk P w K mg base (L2.CX P w) 2 D.a_entry_kept D.d_entry_kept ["entry", "states", "signs"] (spV K [.F, .F, .F] [.F, .F, .F] (W_entry_kept D.A)) := by
  refine fn_ok T.F_entry_kept sc_entry_kept rfl rfl (by decide) (w' := w_entry_kept D.A) (fun cdv A outer s H E hr => ?_) (fun ds P hl h => d_entry_kept D.A ds P h)
  unfold w_entry_kept
  exact qs_cons (q_ifs (q_tcmp op_isN ok_IsN (q_var 0) (q_non) (nomark _)) (qs_one (q_ret (q_non))) (qs_nil)) <|
    qs_cons (q_ifs (PW.pt (qw_or (q_not (q_tval (q_isi "tuple" T.n_isinstance T.n_tuple (q_var 0)))) (qw_or1 (q_tcmp op_ne ok_Ne (q_callB call_lenU ok_Len (by rfl) T.n_len (by rfl) (q_cons (q_var 0) (q_nil))) (q_int) (nomark _))))) (qs_one (q_raise T.rs_NoMachine T.m_NoMachine rfl (takes_of rfl rfl rfl rfl))) (qs_nil)) <|
    qs_cons (q_asg (q_var 0) (q_gtup rfl (q_gcons (q_gname 3 sc_entry_kept.nd) (q_gcons (q_gname 4 sc_entry_kept.nd) (q_gcons (q_gname 5 sc_entry_kept.nd) (q_gnil)))))) <|
    qs_cons (q_ifs (PW.pt (qw_or (q_not (q_tval (q_call (ok_is_number T) (hr.mono (by decide)) T.m_is_number T.F_is_number.kp T.b_is_number (takes_of rfl rfl rfl rfl) (q_cons (q_var 3) (q_cons (q_var 2) (q_nil)))))) (qw_or (q_tcmp (OpR.or op_notIn_seq (op_dnotin (hu_of hr))) ok_NotIn (q_var 4) (q_tup (q_cons (q_str) (q_cons (q_str) (q_nil)))) (by with_unfolding_all rfl)) (qw_or1 (q_not (q_tval (q_call (ok_is_number T) (hr.mono (by decide)) T.m_is_number T.F_is_number.kp T.b_is_number (takes_of rfl rfl rfl rfl) (q_cons (q_var 5) (q_cons (q_var 1) (q_nil)))))))))) (qs_one (q_raise T.rs_NoMachine T.m_NoMachine rfl (takes_of rfl rfl rfl rfl))) (qs_nil)) <|
    qs_one (q_ret (q_tup (q_cons (q_var 3) (q_cons (q_var 4) (q_cons (q_var 5) (q_nil))))))
theorem ok_Machine_init (T : Txt K mg D) : FnOk P w K mg base (L2.CX P w) 3 D.a_Machine_init D.d_Machine_init ["self", "table"] (spVI K (mkMs [] 1) (mkMs [.F] 1) (W_Machine_init D.A)) := by
  refine fn_okI T.F_Machine_init sc_Machine_init rfl rfl (by decide) (w' := w_Machine_init D.A) (fun cdv A outer s H E hr => ?_) (fun ds P hl h => d_Machine_init D.A ds P h)
  unfold w_Machine_init
  exact qs_cons (q_ifs (PW.pt (qw_or (q_tcmp op_eq ok_Eq (q_callB call_lenU ok_Len (by rfl) T.n_len (by rfl) (q_cons (q_var 1) (q_nil))) (q_int) (nomark _)) (qw_or1 (q_tcmp op_eq ok_Eq (q_callB call_lenU ok_Len (by rfl) T.n_len (by rfl) (q_cons (q_ixU (hu_of hr) (q_var 1) (q_int)) (q_nil))) (q_int) (nomark _))))) (qs_one (q_raise T.rs_NoMachine T.m_NoMachine rfl (takes_of rfl rfl rfl rfl))) (qs_nil)) <|
    qs_cons (q_set (i := 2) sc_Machine_init.nd (q_fz (q_callB call_lenU ok_Len (by rfl) T.n_len (by rfl) (q_cons (q_var 1) (q_nil))))) <|
    qs_cons (q_set (i := 3) sc_Machine_init.nd (q_fz (q_callB call_lenU ok_Len (by rfl) T.n_len (by rfl) (q_cons (q_ixU (hu_of hr) (q_var 1) (q_int)) (q_nil))))) <|
    qs_cons (q_set (i := 4) sc_Machine_init.nd (q_lst (q_nil))) <|
    qs_cons (q_for (passes_of rfl) rfl (qi_seq (q_var 1)) (q_gname 5 sc_Machine_init.nd) (qs_cons (q_ifs (q_tcmp op_ne ok_Ne (q_callB call_lenU ok_Len (by rfl) T.n_len (by rfl) (q_cons (q_var 5) (q_nil))) (q_var 3) (nomark _)) (qs_one (q_raise T.rs_NoMachine T.m_NoMachine rfl (takes_of rfl rfl rfl rfl))) (qs_nil)) <|
    qs_one (q_expr (q_lm PySem.F.slot_list_append PySem.F.type_list_append mt_append ok_App (q_var 4) (q_cons (q_callTy call_tuple_of ok_Tuple (by rfl) T.n_tuple (by rfl) (q_cons (q_lcX (own := [("entry", 6)]) [] (takes_of rfl rfl rfl rfl) rfl sc_Machine_init.nd (qi_seq (q_var 5)) (blkOk_by (N := ["self", "table", "states", "signs", "made", "line", "entry"]) (sc := defScope s_Machine_init) (by decide +kernel)) (fun _ _ _ _ _ => q_gname 6 sc_Machine_init.nd) (fun _ _ _ _ _ => q_tsnil) (fun _ _ _ _ _ _ _ _ tk => q_call (ok_entry_kept T) (hr.mono (by decide)) T.m_entry_kept T.F_entry_kept.kp T.b_entry_kept tk (q_cons (q_var 6) (q_cons (q_var 2) (q_cons (q_var 3) (q_nil)))))) (q_nil))) (q_nil)))))) <|
    qs_one (q_putF 0 D.A.C_Machine 0 T.cl_Machine T.na_Machine_table (q_fz (q_callTy call_tuple_of ok_Tuple (by rfl) T.n_tuple (by rfl) (q_cons (q_var 4) (q_nil)))))
theorem ok_is_figures (T : Txt K mg D) : FnOk P w K mg base (L2.CX P w) 1 D.a_is_figures D.d_is_figures ["piece"] (spV K [.F] [.F] (W_is_figures D.A)) := by
  refine fn_ok T.F_is_figures sc_is_figures rfl rfl (by decide) (w' := w_is_figures D.A) (fun cdv A outer s H E hr => ?_) (fun ds P hl h => d_is_figures D.A ds P h)
  unfold w_is_figures
  exact qs_cons (q_ifs (PW.pt (qw_or (q_not (q_tchain op_le op_le ok_B0 ok_B0 (q_int) (q_callB call_lenU ok_Len (by rfl) T.n_len (by rfl) (q_cons (q_var 0) (q_nil))) (q_glob T.c_MOST_FIGURES T.m_MOST_FIGURES T.r_MOST_FIGURES))) (qw_or1 (q_tcmp op_ne ok_Ne (q_sm PySem.F.slot_str_strip PySem.F.type_str_strip mt_stripChars ok_Strip (q_var 0) (q_glob T.c_FIGURES T.m_FIGURES T.r_FIGURES)) (q_str) (nomark _))))) (qs_one (q_ret (q_bl))) (qs_nil)) <|
    qs_one (q_ret (q_or (q_cmp op_eq ok_Eq (q_var 0) (q_str) (nomark _)) (q_one (q_notV (q_sm PySem.F.slot_str_startswith PySem.F.type_str_startswith mt_startswith ok_Starts (q_var 0) (q_str))))))
theorem ok_parts_of (T : Txt K mg D) : FnOk P w K mg base (L2.CX P w) 1 D.a_parts_of D.d_parts_of ["piece"] (spV K [.F] [.F] (W_parts_of D.A)) := by
  refine fn_ok T.F_parts_of sc_parts_of rfl rfl (by decide) (w' := w_parts_of D.A) (fun cdv A outer s H E hr => ?_) (fun ds P hl h => d_parts_of D.A ds P h)
  unfold w_parts_of
  exact qs_cons (q_ifs (q_tcmp op_lt ok_B0 (q_sm PySem.F.slot_str_find PySem.F.type_str_find mt_find ok_Find (q_var 0) (q_str)) (q_int) (nomark _)) (qs_one (q_ret (q_sm PySem.F.slot_str_partition PySem.F.type_str_partition mt_partition ok_Part (q_var 0) (q_str)))) (qs_nil)) <|
    qs_one (q_ret (q_sm PySem.F.slot_str_partition PySem.F.type_str_partition mt_partition ok_Part (q_var 0) (q_str)))
theorem ok_is_entry (T : Txt K mg D) : FnOk P w K mg base (L2.CX P w) 2 D.a_is_entry D.d_is_entry ["piece"] (spV K [.F] [.F] (W_is_entry D.A)) := by
  refine fn_ok T.F_is_entry sc_is_entry rfl rfl (by decide) (w' := w_is_entry D.A) (fun cdv A outer s H E hr => ?_) (fun ds P hl h => d_is_entry D.A ds P h)
  unfold w_is_entry
  exact qs_cons (q_ifs (q_tcmp op_eq ok_Eq (q_var 0) (q_str) (nomark _)) (qs_one (q_ret (q_bl))) (qs_nil)) <|
    qs_cons (q_asg (q_call (ok_parts_of T) (hr.mono (by decide)) T.m_parts_of T.F_parts_of.kp T.b_parts_of (takes_of rfl rfl rfl rfl) (q_cons (q_var 0) (q_nil))) (q_gtup rfl (q_gcons (q_gname 1 sc_is_entry.nd) (q_gcons (q_gname 2 sc_is_entry.nd) (q_gcons (q_gname 3 sc_is_entry.nd) (q_gnil)))))) <|
    qs_one (q_ret (q_and (q_cmp op_ne ok_Ne (q_var 2) (q_str) (nomark _)) (q_and (q_call (ok_is_figures T) (hr.mono (by decide)) T.m_is_figures T.F_is_figures.kp T.b_is_figures (takes_of rfl rfl rfl rfl) (q_cons (q_var 1) (q_nil))) (q_one (q_call (ok_is_figures T) (hr.mono (by decide)) T.m_is_figures T.F_is_figures.kp T.b_is_figures (takes_of rfl rfl rfl rfl) (q_cons (q_var 3) (q_nil)))))))
theorem ok_entry_from (T : Txt K mg D) : FnOk P w K mg base (L2.CX P w) 2 D.a_entry_from D.d_entry_from ["piece"] (spV K [.F] [.F] (W_entry_from D.A)) := by
  refine fn_ok T.F_entry_from sc_entry_from rfl rfl (by decide) (w' := w_entry_from D.A) (fun cdv A outer s H E hr => ?_) (fun ds P hl h => d_entry_from D.A ds P h)
  unfold w_entry_from
  exact qs_cons (q_ifs (q_tcmp op_eq ok_Eq (q_var 0) (q_str) (nomark _)) (qs_one (q_ret (q_non))) (qs_nil)) <|
    qs_cons (q_asg (q_call (ok_parts_of T) (hr.mono (by decide)) T.m_parts_of T.F_parts_of.kp T.b_parts_of (takes_of rfl rfl rfl rfl) (q_cons (q_var 0) (q_nil))) (q_gtup rfl (q_gcons (q_gname 1 sc_entry_from.nd) (q_gcons (q_gname 2 sc_entry_from.nd) (q_gcons (q_gname 3 sc_entry_from.nd) (q_gnil)))))) <|
    qs_one (q_ret (q_tup (q_cons (q_callTy call_int_str ok_IntT (by rfl) T.n_int (by rfl) (q_cons (q_var 1) (q_nil))) (q_cons (q_var 2) (q_cons (q_callTy call_int_str ok_IntT (by rfl) T.n_int (by rfl) (q_cons (q_var 3) (q_nil))) (q_nil))))))
theorem ok_read_machine (T : Txt K mg D) : FnOk P w K mg base (L2.CX P w) 5 D.a_read_machine D.d_read_machine ["text"] (spV K [.F] [.F] (W_read_machine D.A)) := by
  refine fn_ok T.F_read_machine sc_read_machine rfl rfl (by decide) (w' := w_read_machine D.A) (fun cdv A outer s H E hr => ?_) (fun ds P hl h => d_read_machine D.A ds P h)
  unfold w_read_machine
  exact qs_cons (q_setLcF (own := [("row", 1)]) [] rfl sc_read_machine.nd (qi_seq (q_sm PySem.F.slot_str_split PySem.F.type_str_split mt_split ok_Split (q_var 0) (q_str))) (blkOk_by (N := ["text", "row", "rows", "table", "line", "pieces", "piece"]) (sc := defScope s_read_machine) (by decide +kernel)) (fun _ _ _ _ _ => q_gname 1 sc_read_machine.nd) (fun _ _ _ _ _ => q_tsnil) (fun _ _ _ _ _ => q_sm PySem.F.slot_str_split PySem.F.type_str_split mt_split ok_Split (q_var 1) (q_str))) <|
    qs_cons (q_set (i := 3) sc_read_machine.nd (q_lst (q_nil))) <|
    qs_cons (q_for (passes_of rfl) rfl (qi_enum T.n_enumerate (q_cons (q_var 2) (q_nil))) (q_gtup rfl (q_gcons (q_gname 4 sc_read_machine.nd) (q_gcons (q_gname 5 sc_read_machine.nd) (q_gnil)))) (qs_cons (q_ifs (PW.pt (qw_or (q_tcmp op_ne ok_Ne (q_callB call_lenU ok_Len (by rfl) T.n_len (by rfl) (q_cons (q_var 5) (q_nil))) (q_callB call_lenU ok_Len (by rfl) T.n_len (by rfl) (q_cons (q_ixU (hu_of hr) (q_var 2) (q_int)) (q_nil))) (nomark _)) (qw_or1 (q_not (q_tval (q_callB (cr_all rfl) ok_All (by rfl) T.n_all (by rfl) (q_cons (q_lc (own := [("piece", 6)]) [] rfl sc_read_machine.nd (qi_seq (q_var 5)) (blkOk_by (N := ["text", "row", "rows", "table", "line", "pieces", "piece"]) (sc := defScope s_read_machine) (by decide +kernel)) (fun _ _ _ _ _ => q_gname 6 sc_read_machine.nd) (fun _ _ _ _ _ => q_tsnil) (fun _ _ _ _ _ => q_call (ok_is_entry T) (hr.mono (by decide)) T.m_is_entry T.F_is_entry.kp T.b_is_entry takes0 (q_cons (q_var 6) (q_nil)))) (q_nil)))))))) (qs_one (q_raiseF T.ox_NoText T.ni_NoText T.nt_NoText (ok_NoText_init T) (hr.mono (by decide)) T.b_NoText_init T.m_NoText rfl (takes_of rfl rfl rfl rfl) (q_var 4))) (qs_nil)) <|
    qs_one (q_expr (q_lm PySem.F.slot_list_append PySem.F.type_list_append mt_append ok_App (q_var 3) (q_cons (q_lc (own := [("piece", 6)]) [] rfl sc_read_machine.nd (qi_seq (q_var 5)) (blkOk_by (N := ["text", "row", "rows", "table", "line", "pieces", "piece"]) (sc := defScope s_read_machine) (by decide +kernel)) (fun _ _ _ _ _ => q_gname 6 sc_read_machine.nd) (fun _ _ _ _ _ => q_tsnil) (fun _ _ _ _ _ => q_call (ok_entry_from T) (hr.mono (by decide)) T.m_entry_from T.F_entry_from.kp T.b_entry_from takes0 (q_cons (q_var 6) (q_nil)))) (q_nil)))))) <|
    qs_one (q_ret (q_makeI T.mk_Machine (ok_Machine_init T) (hr.mono (by decide)) T.m_Machine T.b_Machine_init (takes_of rfl rfl rfl rfl) (q_cons (q_frz 3) (q_nil))))
theorem ok__law_nextR (T : Txt K mg D) : FnOk P w K mg base (L2.CX P w) 1 D.a__law_nextR D.d__law_nextR ["_law_script", "_law_at"] (spV K [.F, .P (.L .F)] [.F, .P (.L .F)] (W__law_nextR D.A)) := by
  refine fn_ok T.F__law_nextR sc__law_nextR rfl rfl (by decide) (w' := w__law_nextR D.A) (fun cdv A outer s H E hr => ?_) (fun ds P hl h => d__law_nextR D.A ds P h)
  unfold w__law_nextR
  exact qs_cons (q_sub (hu_of hr) (q_var 1) (q_int) (q_op op_addU ok_Add (q_ixU (hu_of hr) (q_var 1) (q_int)) (q_int))) <|
    qs_cons (q_set (i := 2) sc__law_nextR.nd (q_fz (q_int))) <|
    qs_cons (q_ifs (q_tcmp op_gt ok_B0 (q_callB call_lenU ok_Len (by rfl) T.n_len (by rfl) (q_cons (q_var 0) (q_nil))) (q_int) (nomark _)) (qs_one (q_set (i := 2) sc__law_nextR.nd (q_fz (q_ixU (hu_of hr) (q_var 0) (q_op op_mod ok_I (q_ixU (hu_of hr) (q_var 1) (q_int)) (q_callB call_lenU ok_Len (by rfl) T.n_len (by rfl) (q_cons (q_var 0) (q_nil)))))))) (qs_nil)) <|
    qs_cons (q_set (i := 3) sc__law_nextR.nd (q_fz (q_op op_mod ok_I (q_op op_mulU ok_Mul (q_op op_addU ok_Add (q_op op_addU ok_Add (q_op op_mod ok_I (q_var 2) (q_int)) (q_op op_mulU ok_Mul (q_op op_mulU ok_Mul (q_ixU (hu_of hr) (q_var 1) (q_int)) (q_ixU (hu_of hr) (q_var 1) (q_int))) (q_int))) (q_int)) (q_int)) (q_int)))) <|
    qs_one (q_ret (q_op op_mod ok_I (q_op op_mulU ok_Mul (q_var 3) (q_var 3)) (q_int)))
theorem ok__law_sameN (T : Txt K mg D) : ∀ n, FnOk P w K mg base (L2.CX P w) n D.a__law_sameN D.d__law_sameN ["_law_found", "_law_due"] (spV K [.F, .F] [.F, .F] (W__law_sameN D.A n))
  | 0 => fnok_none fun _ _ h => h
  | n + 1 => by
    have IH : FnOk P w K mg base (L2.CX P w) n D.a__law_sameN D.d__law_sameN ["_law_found", "_law_due"] (spV K [.F, .F] [.F, .F] (W__law_sameN D.A n)) := ok__law_sameN T n
    refine fn_ok T.F__law_sameN sc__law_sameN rfl rfl (by decide) (w' := w__law_sameN D.A n) (fun cdv A outer s H E hr => ?_) (fun ds P hl h => d__law_sameN D.A n ds P h)
    unfold w__law_sameN
    exact qs_cons (q_ifs (q_tcmp op_isN ok_IsN (q_var 1) (q_non) (nomark _)) (qs_one (q_ret (q_cmp op_isN ok_IsN (q_var 0) (q_non) (nomark _)))) (qs_nil)) <|
      qs_cons (q_ifs (q_tval (q_isi "dict" T.n_isinstance T.n_dict (q_var 1))) (q_nevers) (qs_nil)) <|
      qs_cons (q_ifs (PW.pt (qw_or (q_tval (q_isi "list" T.n_isinstance T.n_list (q_var 1))) (qw_or1 (q_tval (q_isi "tuple" T.n_isinstance T.n_tuple (q_var 1)))))) (qs_cons (q_ifs (PW.pt (qw_and (q_tval (q_isi "list" T.n_isinstance T.n_list (q_var 1))) (qw_and1 (q_not (q_tval (q_isi "list" T.n_isinstance T.n_list (q_var 0))))))) (qs_one (q_ret (q_bl))) (qs_nil)) <|
      qs_cons (q_ifs (PW.pt (qw_or (PW.pt (qw_and (q_tval (q_isi "tuple" T.n_isinstance T.n_tuple (q_var 1))) (qw_and1 (q_not (q_tval (q_isi "tuple" T.n_isinstance T.n_tuple (q_var 0))))))) (qw_or1 (q_tcmp op_ne ok_Ne (q_callB call_lenU ok_Len (by rfl) T.n_len (by rfl) (q_cons (q_var 0) (q_nil))) (q_callB call_lenU ok_Len (by rfl) T.n_len (by rfl) (q_cons (q_var 1) (q_nil))) (nomark _))))) (qs_one (q_ret (q_bl))) (qs_nil)) <|
      qs_one (q_ret (q_callB (cr_all rfl) ok_All (by rfl) T.n_all (by rfl) (q_cons (q_lc (own := [("_law_one_here", 3), ("_law_other", 4)]) [] rfl sc__law_sameN.nd (qi_zip T.n_zip (q_cons (q_var 0) (q_cons (q_var 1) (q_nil)))) (blkOk_by (N := ["_law_found", "_law_due", "_law_name", "_law_one_here", "_law_other"]) (sc := defScope s__law_sameN) (by decide +kernel)) (fun _ _ _ _ _ => q_gtup rfl (q_gcons (q_gname 3 sc__law_sameN.nd) (q_gcons (q_gname 4 sc__law_sameN.nd) (q_gnil)))) (fun _ _ _ _ _ => q_tsnil) (fun _ _ _ _ _ => q_call IH hr T.m__law_sameN T.F__law_sameN.kp T.b__law_sameN takes0 (q_cons (q_var 3) (q_cons (q_var 4) (q_nil))))) (q_nil))))) (qs_nil)) <|
      qs_cons (q_ifs (q_tval (q_isi "str" T.n_isinstance T.n_str (q_var 1))) (qs_one (q_ret (q_and (q_isi "str" T.n_isinstance T.n_str (q_var 0)) (q_one (q_cmp op_eq ok_Eq (q_var 0) (q_var 1) (nomark _)))))) (qs_nil)) <|
      qs_one (q_ret (q_and (q_isi "int" T.n_isinstance T.n_int (q_var 0)) (q_and (q_notV (q_isi "bool" T.n_isinstance T.n_bool (q_var 0))) (q_one (q_cmp op_eq ok_Eq (q_var 0) (q_var 1) (nomark _))))))
theorem ok__law_tableR (T : Txt K mg D) : FnOk P w K mg base (L2.CX P w) 2 D.a__law_tableR D.d__law_tableR ["_law_script", "_law_at", "_law_states", "_law_signs"] (spV K [.F, .P (.L .F), .F, .F] [.F, .P (.L .F), .F, .F] (W__law_tableR D.A)) := by
  refine fn_ok T.F__law_tableR sc__law_tableR rfl rfl (by decide) (w' := w__law_tableR D.A) (fun cdv A outer s H E hr => ?_) (fun ds P hl h => d__law_tableR D.A ds P h)
  unfold w__law_tableR
  exact qs_cons (q_set (i := 4) sc__law_tableR.nd (q_lst (q_nil))) <|
    qs_cons (q_for (passes_of rfl) rfl (qi_range1 T.n_range (q_cons (q_var 2) (q_nil))) (q_gname 5 sc__law_tableR.nd) (qs_cons (q_set (i := 6) sc__law_tableR.nd (q_lst (q_nil))) <|
    qs_cons (q_for (passes_of rfl) rfl (qi_range1 T.n_range (q_cons (q_var 3) (q_nil))) (q_gname 7 sc__law_tableR.nd) (qs_cons (q_set (i := 8) sc__law_tableR.nd (q_fz (q_call (ok__law_nextR T) (hr.mono (by decide)) T.m__law_nextR T.F__law_nextR.kp T.b__law_nextR (takes_of rfl rfl rfl rfl) (q_cons (q_var 0) (q_cons (q_var 1) (q_nil)))))) <|
    qs_cons (q_set (i := 9) sc__law_tableR.nd (q_fz (q_tup (q_cons (q_op op_mod ok_I (q_op op_fdiv ok_I (q_var 8) (q_int)) (q_var 3)) (q_cons (q_ixU (hu_of hr) (q_str) (q_op op_mod ok_I (q_op op_fdiv ok_I (q_var 8) (q_int)) (q_int))) (q_cons (q_op op_mod ok_I (q_op op_fdiv ok_I (q_var 8) (q_int)) (q_var 2)) (q_nil))))))) <|
    qs_cons (q_ifs (q_tcmp op_eq ok_Eq (q_op op_mod ok_I (q_var 8) (q_int)) (q_int) (nomark _)) (qs_one (q_set (i := 9) sc__law_tableR.nd (q_fz (q_non)))) (qs_nil)) <|
    qs_one (q_expr (q_lm PySem.F.slot_list_append PySem.F.type_list_append mt_append ok_App (q_var 6) (q_cons (q_var 9) (q_nil)))))) <|
    qs_one (q_expr (q_lm PySem.F.slot_list_append PySem.F.type_list_append mt_append ok_App (q_var 4) (q_cons (q_frz 6) (q_nil)))))) <|
    qs_one (q_ret (q_mov 4))
theorem ok__law_text (T : Txt K mg D) : FnOk P w K mg base (L2.CX P w) 1 D.a__law_text D.d__law_text ["_law_table_here"] (spV K [.F] [.F] (W__law_text D.A)) := by
  refine fn_ok T.F__law_text sc__law_text rfl rfl (by decide) (w' := w__law_text D.A) (fun cdv A outer s H E hr => ?_) (fun ds P hl h => d__law_text D.A ds P h)
  unfold w__law_text
  exact qs_cons (q_set (i := 1) sc__law_text.nd (q_lst (q_nil))) <|
    qs_cons (q_for (passes_of rfl) rfl (qi_seq (q_var 0)) (q_gname 2 sc__law_text.nd) (qs_cons (q_setLcF (own := [("_law_entry", 3)]) [] rfl sc__law_text.nd (qi_seq (q_var 2)) (blkOk_by (N := ["_law_table_here", "_law_rows", "_law_line", "_law_entry", "_law_pieces"]) (sc := defScope s__law_text) (by decide +kernel)) (fun _ _ _ _ _ => q_gname 3 sc__law_text.nd) (fun _ _ _ _ _ => q_tsnil) (fun _ _ _ _ _ => q_if (q_tcmp op_isN ok_IsN (q_var 3) (q_non) (nomark _)) (q_str) (q_op op_addU ok_Add (q_op op_addU ok_Add (q_callTy call_str_int ok_Str (by rfl) T.n_str (by rfl) (q_cons (q_ixU (hu_of hr) (q_var 3) (q_int)) (q_nil))) (q_ixU (hu_of hr) (q_var 3) (q_int))) (q_callTy call_str_int ok_Str (by rfl) T.n_str (by rfl) (q_cons (q_ixU (hu_of hr) (q_var 3) (q_int)) (q_nil)))))) <|
    qs_one (q_expr (q_lm PySem.F.slot_list_append PySem.F.type_list_append mt_append ok_App (q_var 1) (q_cons (q_join (a := " ") (q_var 4)) (q_nil)))))) <|
    qs_one (q_ret (q_join (a := "\n") (q_var 1)))
theorem ok__law_told (T : Txt K mg D) : FnOk P w K mg base (L2.CX P w) 6 D.a__law_told D.d__law_told ["_law_text_here"] (spV K [.F] [.F] (W__law_told D.A)) := by
  refine fn_ok T.F__law_told sc__law_told rfl rfl (by decide) (w' := w__law_told D.A) (fun cdv A outer s H E hr => ?_) (fun ds P hl h => d__law_told D.A ds P h)
  unfold w__law_told
  exact qs_cons (q_tryKT (i := 2) (j := 1) T.xm_NoText_TapeError T.xm_NoMachine_TapeError T.m_TapeError sc__law_told.nd (takes_of rfl rfl rfl rfl) (fun _ _ _ tk _ => (qs_one (q_set (i := 1) sc__law_told.nd (q_fz (q_tup (q_cons (q_str) (q_cons (q_call (ok_read_machine T) (hr.mono (by decide)) T.m_read_machine T.F_read_machine.kp T.b_read_machine tk (q_cons (q_var 0) (q_nil))) (q_nil)))))))) (hsu := fun _ _ _ => VLX.ps_tupE sc__law_told.nd)) <|
    qs_cons (q_ifs (q_tcmp op_eq ok_Eq (q_ixU (hu_of hr) (q_var 1) (q_int)) (q_str) (nomark _)) (qs_one (q_ret (q_var 1))) (qs_nil)) <|
    qs_cons (q_set (i := 3) sc__law_told.nd (q_fz (q_ixU (hu_of hr) (q_var 1) (q_int)))) <|
    qs_cons (q_ifs (q_tval (q_isEM T.ec_NoText T.ec_NoMachine (.cons (.own _) (.cons (.own _) (.cons (.own _) (.cons (.own _) (.cons (.own _) (.cons (.own _) (.cons (.own _) (.cons (.own _) .nil)))))))) (kany_f T.ik_NoText_NoMove (kany_f T.ik_NoText_NoNames (kany_f T.ik_NoText_NoNumber (kany_f T.ik_NoText_NoShape (kany_f T.ik_NoText_NoShot (kany_f T.ik_NoText_NoStretches (kany_f T.ik_NoText_NoWidth (kany_f T.ik_NoText_TooLong rfl)))))))) (kany_f T.ik_NoMachine_NoMove (kany_f T.ik_NoMachine_NoNames (kany_f T.ik_NoMachine_NoNumber (kany_f T.ik_NoMachine_NoShape (kany_f T.ik_NoMachine_NoShot (kany_f T.ik_NoMachine_NoStretches (kany_f T.ik_NoMachine_NoWidth (kany_f T.ik_NoMachine_TooLong rfl)))))))) T.n_isinstance (pa_cons (pe_glob (by rfl) T.m_NoMove rfl) (pa_cons (pe_glob (by rfl) T.m_NoNames rfl) (pa_cons (pe_glob (by rfl) T.m_NoNumber rfl) (pa_cons (pe_glob (by rfl) T.m_NoShape rfl) (pa_cons (pe_glob (by rfl) T.m_NoShot rfl) (pa_cons (pe_glob (by rfl) T.m_NoStretches rfl) (pa_cons (pe_glob (by rfl) T.m_NoWidth rfl) (pa_cons (pe_glob (by rfl) T.m_TooLong rfl) pa_nil)))))))) (q_var 3) (hl := (by show 8 ≤ sizeLine; decide)))) (qs_one (q_ret (q_tup (q_cons (q_str) (q_cons (q_int) (q_nil)))))) (qs_nil)) <|
    qs_cons (q_ifs (PW.pt (qw_and (q_tval (q_isE T.ec_NoText T.ec_NoMachine T.ik_NoText_NoText T.ik_NoMachine_NoText T.n_isinstance T.m_NoText (q_var 3))) (qw_and (q_tval (q_isETy "ValueError" T.ec_NoText T.ec_NoMachine T.it_NoText_ValueError T.it_NoMachine_ValueError T.n_isinstance T.n_ValueError (q_var 3))) (qw_and1 (q_not (q_tval (q_isE T.ec_NoText T.ec_NoMachine T.ik_NoText_NoMachine T.ik_NoMachine_NoMachine T.n_isinstance T.m_NoMachine (q_var 3)))))))) (qs_one (q_ret (q_tup (q_cons (q_str) (q_cons (q_xk T.xc_NoText T.nf_NoText (q_var 3)) (q_nil)))))) (qs_nil)) <|
    qs_cons (q_ifs (PW.pt (qw_and (q_tval (q_isE T.ec_NoText T.ec_NoMachine T.ik_NoText_NoMachine T.ik_NoMachine_NoMachine T.n_isinstance T.m_NoMachine (q_var 3))) (qw_and (q_tval (q_isETy "ValueError" T.ec_NoText T.ec_NoMachine T.it_NoText_ValueError T.it_NoMachine_ValueError T.n_isinstance T.n_ValueError (q_var 3))) (qw_and1 (q_not (q_tval (q_isE T.ec_NoText T.ec_NoMachine T.ik_NoText_NoText T.ik_NoMachine_NoText T.n_isinstance T.m_NoText (q_var 3)))))))) (qs_one (q_ret (q_tup (q_cons (q_str) (q_cons (q_int) (q_nil)))))) (qs_nil)) <|
    qs_one (q_ret (q_tup (q_cons (q_str) (q_cons (q_int) (q_nil)))))
theorem ok__law_bad_row (T : Txt K mg D) : FnOk P w K mg base (L2.CX P w) 2 D.a__law_bad_row D.d__law_bad_row ["_law_script", "_law_at", "_law_row"] (spV K [.F, .P (.L .F), .F] [.F, .P (.L .F), .F] (W__law_bad_row D.A)) := by
  refine fn_ok T.F__law_bad_row sc__law_bad_row rfl rfl (by decide) (w' := w__law_bad_row D.A) (fun cdv A outer s H E hr => ?_) (fun ds P hl h => d__law_bad_row D.A ds P h)
  unfold w__law_bad_row
  exact qs_cons (q_set (i := 3) sc__law_bad_row.nd (q_fz (q_call (ok__law_nextR T) (hr.mono (by decide)) T.m__law_nextR T.F__law_nextR.kp T.b__law_nextR (takes_of rfl rfl rfl rfl) (q_cons (q_var 0) (q_cons (q_var 1) (q_nil)))))) <|
    qs_cons (q_set (i := 4) sc__law_bad_row.nd (q_sm PySem.F.slot_str_split PySem.F.type_str_split mt_split ok_Split (q_var 2) (q_str))) <|
    qs_cons (q_set (i := 5) sc__law_bad_row.nd (q_fz (q_op op_mod ok_I (q_op op_fdiv ok_I (q_var 3) (q_int)) (q_callB call_lenU ok_Len (by rfl) T.n_len (by rfl) (q_cons (q_var 4) (q_nil)))))) <|
    qs_cons (q_ifs (q_tcmp op_eq ok_Eq (q_op op_mod ok_I (q_var 3) (q_int)) (q_int) (nomark _)) (qs_one (q_ret (q_op op_addU ok_Add (q_var 2) (q_str)))) (qs_nil)) <|
    qs_cons (q_ifs (q_tcmp op_eq ok_Eq (q_op op_mod ok_I (q_var 3) (q_int)) (q_int) (nomark _)) (qs_one (q_ret (q_op op_addU ok_Add (q_str) (q_var 2)))) (qs_nil)) <|
    qs_cons (q_ifs (q_tcmp op_eq ok_Eq (q_op op_mod ok_I (q_var 3) (q_int)) (q_int) (nomark _)) (qs_one (q_ret (q_join (a := " ") (q_op op_addU ok_Add (q_op op_addU ok_Add (q_sl (q_var 4) (q_no) (q_so (q_var 5))) (q_lst (q_cons (q_str) (q_nil)))) (q_sl (q_var 4) (q_so (q_var 5)) (q_no)))))) (qs_nil)) <|
    qs_cons (q_set (i := 6) sc__law_bad_row.nd (q_fz (q_lst (q_cons (q_str) (q_cons (q_str) (q_cons (q_str) (q_cons (q_str) (q_cons (q_str) (q_cons (q_str) (q_cons (q_str) (q_cons (q_str) (q_cons (q_str) (q_cons (q_str) (q_cons (q_str) (q_cons (q_str) (q_cons (q_str) (q_nil))))))))))))))))) <|
    qs_cons (q_set (i := 6) sc__law_bad_row.nd (q_fz (q_op op_addU ok_Add (q_var 6) (q_lst (q_cons (q_str) (q_cons (q_str) (q_cons (q_str) (q_cons (q_op op_addU ok_Add (q_op op_addU ok_Add (q_str) (q_op op_mulS ok_MulS (q_str) (q_int))) (q_str)) (q_cons (q_op op_addU ok_Add (q_str) (q_op op_mulS ok_MulS (q_str) (q_int))) (q_cons (q_str) (q_cons (q_str) (q_nil)))))))))))) <|
    qs_cons (q_sub (hu_of hr) (q_var 4) (q_var 5) (q_ixU (hu_of hr) (q_var 6) (q_op op_mod ok_I (q_op op_fdiv ok_I (q_var 3) (q_int)) (q_int)))) <|
    qs_one (q_ret (q_join (a := " ") (q_var 4)))
theorem ok__law_more (T : Txt K mg D) : FnOk P w K mg base (L2.CX P w) 2 D.a__law_more D.d__law_more ["_law_script", "_law_at", "_law_rows"] (spV K [.F, .P (.L .F), .F] [.F, .P (.L .F), .F] (W__law_more D.A)) := by
  refine fn_ok T.F__law_more sc__law_more rfl rfl (by decide) (w' := w__law_more D.A) (fun cdv A outer s H E hr => ?_) (fun ds P hl h => d__law_more D.A ds P h)
  unfold w__law_more
  exact qs_cons (q_set (i := 3) sc__law_more.nd (q_fz (q_call (ok__law_nextR T) (hr.mono (by decide)) T.m__law_nextR T.F__law_nextR.kp T.b__law_nextR (takes_of rfl rfl rfl rfl) (q_cons (q_var 0) (q_cons (q_var 1) (q_nil)))))) <|
    qs_cons (q_set (i := 4) sc__law_more.nd (q_fz (q_op op_mod ok_I (q_var 3) (q_callB call_lenU ok_Len (by rfl) T.n_len (by rfl) (q_cons (q_var 2) (q_nil)))))) <|
    qs_cons (q_set (i := 5) sc__law_more.nd (q_callTy (call_listU rfl) ok_List (by rfl) T.n_list (by rfl) (q_cons (q_var 2) (q_nil)))) <|
    qs_cons (q_ifs (q_tcmp op_eq ok_Eq (q_op op_mod ok_I (q_op op_fdiv ok_I (q_var 3) (q_int)) (q_int)) (q_int) (nomark _)) (qs_one (q_ret (q_tup (q_cons (q_op op_addU ok_Add (q_var 5) (q_lst (q_cons (q_str) (q_nil)))) (q_cons (q_callB call_lenU ok_Len (by rfl) T.n_len (by rfl) (q_cons (q_var 2) (q_nil))) (q_nil)))))) (qs_nil)) <|
    qs_cons (q_ifs (q_tcmp op_eq ok_Eq (q_op op_mod ok_I (q_op op_fdiv ok_I (q_var 3) (q_int)) (q_int)) (q_int) (nomark _)) (qs_cons (q_sub (hu_of hr) (q_var 5) (q_var 4) (q_op op_addU ok_Add (q_ixU (hu_of hr) (q_var 5) (q_var 4)) (q_str))) <|
    qs_cons (q_ifs (PW.pt (qw_and (q_tcmp op_eq ok_Eq (q_var 4) (q_int) (nomark _)) (qw_and1 (q_tcmp op_gt ok_B0 (q_callB call_lenU ok_Len (by rfl) T.n_len (by rfl) (q_cons (q_var 2) (q_nil))) (q_int) (nomark _))))) (qs_one (q_ret (q_tup (q_cons (q_frz 5) (q_cons (q_int) (q_nil)))))) (qs_nil)) <|
    qs_one (q_ret (q_tup (q_cons (q_op op_addU ok_Add (q_var 5) (q_lst (q_cons (q_op op_addU ok_Add (q_str) (q_op op_mulS ok_MulS (q_str) (q_callB call_lenU ok_Len (by rfl) T.n_len (by rfl) (q_cons (q_sm PySem.F.slot_str_split PySem.F.type_str_split mt_split ok_Split (q_ixU (hu_of hr) (q_var 2) (q_int)) (q_str)) (q_nil))))) (q_nil)))) (q_cons (q_callB (call_max2 rfl) ok_Max2 (by rfl) T.n_max (by rfl) (q_cons (q_var 4) (q_cons (q_int) (q_nil)))) (q_nil)))))) (qs_nil)) <|
    qs_cons (q_expr (q_lm PySem.F.slot_list_insert PySem.F.type_list_insert mt_insert ok_Ins (q_var 5) (q_cons (q_var 4) (q_cons (q_str) (q_nil))))) <|
    qs_one (q_ret (q_tup (q_cons (q_frz 5) (q_cons (q_var 4) (q_nil)))))
theorem ok__law_wrong (T : Txt K mg D) : FnOk P w K mg base (L2.CX P w) 2 D.a__law_wrong D.d__law_wrong ["_law_script", "_law_at", "_law_table_here"] (spV K [.F, .P (.L .F), .F] [.F, .P (.L .F), .F] (W__law_wrong D.A)) := by
  refine fn_ok T.F__law_wrong sc__law_wrong rfl rfl (by decide) (w' := w__law_wrong D.A) (fun cdv A outer s H E hr => ?_) (fun ds P hl h => d__law_wrong D.A ds P h)
  unfold w__law_wrong
  exact qs_cons (q_set (i := 3) sc__law_wrong.nd (q_fz (q_call (ok__law_nextR T) (hr.mono (by decide)) T.m__law_nextR T.F__law_nextR.kp T.b__law_nextR (takes_of rfl rfl rfl rfl) (q_cons (q_var 0) (q_cons (q_var 1) (q_nil)))))) <|
    qs_cons (q_setLcO (.L .F) (own := [("_law_line", 4)]) [] rfl sc__law_wrong.nd (qi_seq (q_var 2)) (blkOk_by (N := ["_law_script", "_law_at", "_law_table_here", "_law_m", "_law_line", "_law_made", "_law_k", "_law_j", "_law_signs", "_law_states", "_law_far"]) (sc := defScope s__law_wrong) (by decide +kernel)) (fun _ _ _ _ _ => q_gname 4 sc__law_wrong.nd) (fun _ _ _ _ _ => q_tsnil) (fun _ _ _ _ _ => q_callTy (call_listU rfl) ok_List (by rfl) T.n_list (by rfl) (q_cons (q_var 4) (q_nil)))) <|
    qs_cons (q_set (i := 6) sc__law_wrong.nd (q_fz (q_op op_mod ok_I (q_var 3) (q_callB call_lenU ok_Len (by rfl) T.n_len (by rfl) (q_cons (q_var 5) (q_nil)))))) <|
    qs_cons (q_set (i := 7) sc__law_wrong.nd (q_fz (q_op op_mod ok_I (q_op op_fdiv ok_I (q_var 3) (q_int)) (q_callB call_lenU ok_Len (by rfl) T.n_len (by rfl) (q_cons (q_ixU (hu_of hr) (q_var 5) (q_int)) (q_nil)))))) <|
    qs_cons (q_set (i := 8) sc__law_wrong.nd (q_fz (q_callB call_lenU ok_Len (by rfl) T.n_len (by rfl) (q_cons (q_ixU (hu_of hr) (q_var 5) (q_int)) (q_nil))))) <|
    qs_cons (q_set (i := 9) sc__law_wrong.nd (q_fz (q_callB call_lenU ok_Len (by rfl) T.n_len (by rfl) (q_cons (q_var 5) (q_nil))))) <|
    qs_cons (q_set (i := 10) sc__law_wrong.nd (q_fz (q_ixU (hu_of hr) (q_lst (q_cons (q_int) (q_cons (q_int) (q_cons (q_op op_pow ok_I (q_int) (q_int)) (q_cons (q_op op_pow ok_I (q_int) (q_int)) (q_nil)))))) (q_op op_mod ok_I (q_op op_fdiv ok_I (q_var 3) (q_int)) (q_int))))) <|
    qs_cons (q_sub (hu_of hr) (q_ixU (hu_of hr) (q_var 5) (q_var 6)) (q_var 7) (q_ixU (hu_of hr) (q_lst (q_cons (q_tup (q_cons (q_var 8) (q_cons (q_str) (q_cons (q_int) (q_nil))))) (q_cons (q_tup (q_cons (q_int) (q_cons (q_str) (q_cons (q_var 9) (q_nil))))) (q_cons (q_tup (q_cons (q_op op_addU ok_Add (q_op op_sub ok_I0 (q_var 8) (q_int)) (q_var 10)) (q_cons (q_str) (q_cons (q_int) (q_nil))))) (q_cons (q_tup (q_cons (q_int) (q_cons (q_str) (q_cons (q_op op_addU ok_Add (q_op op_sub ok_I0 (q_var 9) (q_int)) (q_var 10)) (q_nil))))) (q_nil)))))) (q_op op_mod ok_I (q_op op_fdiv ok_I (q_var 3) (q_int)) (q_int)))) <|
    qs_one (q_ret (q_fz (q_frz 5)))
theorem ok__law_one (T : Txt K mg D) : FnOk P w K mg base (L2.CX P w) 7 D.a__law_one D.d__law_one ["_law_script", "_law_at"] (spV K [.F, .P (.L .F)] [.F, .P (.L .F)] (W__law_one D.A)) := by
  refine fn_ok T.F__law_one sc__law_one rfl rfl (by decide) (w' := w__law_one D.A) (fun cdv A outer s H E hr => ?_) (fun ds P hl h => d__law_one D.A ds P h)
  unfold w__law_one
  exact qs_cons (q_set (i := 2) sc__law_one.nd (q_fz (q_call (ok__law_nextR T) (hr.mono (by decide)) T.m__law_nextR T.F__law_nextR.kp T.b__law_nextR (takes_of rfl rfl rfl rfl) (q_cons (q_var 0) (q_cons (q_var 1) (q_nil)))))) <|
    qs_cons (q_set (i := 3) sc__law_one.nd (q_fz (q_call (ok__law_tableR T) (hr.mono (by decide)) T.m__law_tableR T.F__law_tableR.kp T.b__law_tableR (takes_of rfl rfl rfl rfl) (q_cons (q_var 0) (q_cons (q_var 1) (q_cons (q_op op_addU ok_Add (q_int) (q_op op_mod ok_I (q_var 2) (q_int))) (q_cons (q_op op_addU ok_Add (q_int) (q_op op_mod ok_I (q_op op_fdiv ok_I (q_var 2) (q_int)) (q_int))) (q_nil)))))))) <|
    qs_cons (q_set (i := 4) sc__law_one.nd (q_fz (q_call (ok__law_text T) (hr.mono (by decide)) T.m__law_text T.F__law_text.kp T.b__law_text (takes_of rfl rfl rfl rfl) (q_cons (q_var 3) (q_nil))))) <|
    qs_cons (q_set (i := 5) sc__law_one.nd (q_fz (q_sm PySem.F.slot_str_split PySem.F.type_str_split mt_split ok_Split (q_var 4) (q_str)))) <|
    qs_cons (q_set (i := 6) sc__law_one.nd (q_fz (q_op op_mod ok_I (q_call (ok__law_nextR T) (hr.mono (by decide)) T.m__law_nextR T.F__law_nextR.kp T.b__law_nextR (takes_of rfl rfl rfl rfl) (q_cons (q_var 0) (q_cons (q_var 1) (q_nil)))) (q_callB call_lenU ok_Len (by rfl) T.n_len (by rfl) (q_cons (q_var 5) (q_nil)))))) <|
    qs_cons (q_set (i := 7) sc__law_one.nd (q_callTy (call_listU rfl) ok_List (by rfl) T.n_list (by rfl) (q_cons (q_var 5) (q_nil)))) <|
    qs_cons (q_sub (hu_of hr) (q_var 7) (q_var 6) (q_call (ok__law_bad_row T) (hr.mono (by decide)) T.m__law_bad_row T.F__law_bad_row.kp T.b__law_bad_row (takes_of rfl rfl rfl rfl) (q_cons (q_var 0) (q_cons (q_var 1) (q_cons (q_ixU (hu_of hr) (q_var 5) (q_var 6)) (q_nil)))))) <|
    qs_cons (q_ifs (PW.pt (qw_and (q_tcmp op_eq ok_Eq (q_op op_mod ok_I (q_op op_fdiv ok_I (q_var 2) (q_int)) (q_int)) (q_int) (nomark _)) (qw_and1 (q_tcmp op_lt ok_B0 (q_op op_addU ok_Add (q_var 6) (q_int)) (q_callB call_lenU ok_Len (by rfl) T.n_len (by rfl) (q_cons (q_var 5) (q_nil))) (nomark _))))) (qs_one (q_sub (hu_of hr) (q_var 7) (q_op op_addU ok_Add (q_var 6) (q_int)) (q_call (ok__law_bad_row T) (hr.mono (by decide)) T.m__law_bad_row T.F__law_bad_row.kp T.b__law_bad_row (takes_of rfl rfl rfl rfl) (q_cons (q_var 0) (q_cons (q_var 1) (q_cons (q_ixU (hu_of hr) (q_var 5) (q_op op_addU ok_Add (q_var 6) (q_int))) (q_nil))))))) (qs_nil)) <|
    qs_cons (q_ifs (q_not (q_tval (q_call (ok__law_sameN T 6) (hr.mono (by decide)) T.m__law_sameN T.F__law_sameN.kp T.b__law_sameN (takes_of rfl rfl rfl rfl) (q_cons (q_call (ok__law_told T) (hr.mono (by decide)) T.m__law_told T.F__law_told.kp T.b__law_told (takes_of rfl rfl rfl rfl) (q_cons (q_join (a := "\n") (q_var 7)) (q_nil))) (q_cons (q_tup (q_cons (q_str) (q_cons (q_var 6) (q_nil)))) (q_nil)))))) (qs_one (q_ret (q_bl))) (qs_nil)) <|
    qs_cons (q_asg (q_call (ok__law_more T) (hr.mono (by decide)) T.m__law_more T.F__law_more.kp T.b__law_more (takes_of rfl rfl rfl rfl) (q_cons (q_var 0) (q_cons (q_var 1) (q_cons (q_var 5) (q_nil))))) (q_gtup rfl (q_gcons (q_gname 7 sc__law_one.nd) (q_gcons (q_gname 8 sc__law_one.nd) (q_gnil))))) <|
    qs_cons (q_ifs (q_not (q_tval (q_call (ok__law_sameN T 6) (hr.mono (by decide)) T.m__law_sameN T.F__law_sameN.kp T.b__law_sameN (takes_of rfl rfl rfl rfl) (q_cons (q_call (ok__law_told T) (hr.mono (by decide)) T.m__law_told T.F__law_told.kp T.b__law_told (takes_of rfl rfl rfl rfl) (q_cons (q_join (a := "\n") (q_var 7)) (q_nil))) (q_cons (q_tup (q_cons (q_str) (q_cons (q_var 8) (q_nil)))) (q_nil)))))) (qs_one (q_ret (q_bl))) (qs_nil)) <|
    qs_cons (q_set (i := 9) sc__law_one.nd (q_fz (q_call (ok__law_text T) (hr.mono (by decide)) T.m__law_text T.F__law_text.kp T.b__law_text (takes_of rfl rfl rfl rfl) (q_cons (q_call (ok__law_wrong T) (hr.mono (by decide)) T.m__law_wrong T.F__law_wrong.kp T.b__law_wrong (takes_of rfl rfl rfl rfl) (q_cons (q_var 0) (q_cons (q_var 1) (q_cons (q_var 3) (q_nil))))) (q_nil))))) <|
    qs_cons (q_ifs (q_not (q_tval (q_call (ok__law_sameN T 6) (hr.mono (by decide)) T.m__law_sameN T.F__law_sameN.kp T.b__law_sameN (takes_of rfl rfl rfl rfl) (q_cons (q_call (ok__law_told T) (hr.mono (by decide)) T.m__law_told T.F__law_told.kp T.b__law_told (takes_of rfl rfl rfl rfl) (q_cons (q_var 9) (q_nil))) (q_cons (q_tup (q_cons (q_str) (q_cons (q_int) (q_nil)))) (q_nil)))))) (qs_one (q_ret (q_bl))) (qs_nil)) <|
    qs_cons (q_ifs (PW.pt (qw_or (q_not (q_tval (q_call (ok__law_sameN T 6) (hr.mono (by decide)) T.m__law_sameN T.F__law_sameN.kp T.b__law_sameN (takes_of rfl rfl rfl rfl) (q_cons (q_call (ok__law_told T) (hr.mono (by decide)) T.m__law_told T.F__law_told.kp T.b__law_told (takes_of rfl rfl rfl rfl) (q_cons (q_op op_addU ok_Add (q_var 9) (q_str)) (q_nil))) (q_cons (q_tup (q_cons (q_str) (q_cons (q_callB call_lenU ok_Len (by rfl) T.n_len (by rfl) (q_cons (q_var 5) (q_nil))) (q_nil)))) (q_nil)))))) (qw_or1 (q_not (q_tval (q_call (ok__law_sameN T 6) (hr.mono (by decide)) T.m__law_sameN T.F__law_sameN.kp T.b__law_sameN (takes_of rfl rfl rfl rfl) (q_cons (q_call (ok__law_told T) (hr.mono (by decide)) T.m__law_told T.F__law_told.kp T.b__law_told (takes_of rfl rfl rfl rfl) (q_cons (q_str) (q_nil))) (q_cons (q_tup (q_cons (q_str) (q_cons (q_int) (q_nil)))) (q_nil))))))))) (qs_one (q_ret (q_bl))) (qs_nil)) <|
    qs_cons (q_set (i := 10) sc__law_one.nd (q_fz (q_call (ok__law_told T) (hr.mono (by decide)) T.m__law_told T.F__law_told.kp T.b__law_told (takes_of rfl rfl rfl rfl) (q_cons (q_var 4) (q_nil))))) <|
    qs_cons (q_ifs (PW.pt (qw_or (q_tcmp op_ne ok_Ne (q_ixU (hu_of hr) (q_var 10) (q_int)) (q_str) (nomark _)) (qw_or1 (q_not (q_tval (q_isC T.ic_Machine T.n_isinstance T.m_Machine (q_ixU (hu_of hr) (q_var 10) (q_int)))))))) (qs_one (q_ret (q_bl))) (qs_nil)) <|
    qs_one (q_ret (q_call (ok__law_sameN T 6) (hr.mono (by decide)) T.m__law_sameN T.F__law_sameN.kp T.b__law_sameN (takes_of rfl rfl rfl rfl) (q_cons (q_fld D.A.C_Machine 0 T.cl_Machine T.na_Machine_table (q_ixU (hu_of hr) (q_var 10) (q_int))) (q_cons (q_callTy call_tuple_of ok_Tuple (by rfl) T.n_tuple (by rfl) (q_cons (q_lc (own := [("_law_line", 8)]) [] rfl sc__law_one.nd (qi_seq (q_var 3)) (blkOk_by (N := ["_law_script", "_law_at", "_law_m", "_law_table_here", "_law_text_here", "_law_rows", "_law_k", "_law_spoilt", "_law_line", "_law_wrong_here", "_law_back"]) (sc := defScope s__law_one) (by decide +kernel)) (fun _ _ _ _ _ => q_gname 8 sc__law_one.nd) (fun _ _ _ _ _ => q_tsnil) (fun _ _ _ _ _ => q_callTy call_tuple_of ok_Tuple (by rfl) T.n_tuple (by rfl) (q_cons (q_var 8) (q_nil)))) (q_nil))) (q_nil)))))
theorem ok_law (T : Txt K mg D) : FnOk P w K mg base (L2.CX P w) 8 D.a_law D.d_law ["_law_script"] (spV K [.F] [.F] (W_law D.A)) := by
  refine fn_ok T.F_law sc_law rfl rfl (by decide) (w' := w_law D.A) (fun cdv A outer s H E hr => ?_) (fun ds P hl h => d_law D.A ds P h)
  unfold w_law
  exact qs_cons (q_set (i := 1) sc_law.nd (q_lst (q_cons (q_int) (q_nil)))) <|
    qs_cons (q_for (passes_of rfl) rfl (qi_range1 T.n_range (q_cons (q_op op_addU ok_Add (q_int) (q_callB (call_min2 rfl) ok_Min2 (by rfl) T.n_min (by rfl) (q_cons (q_int) (q_cons (q_op op_fdiv ok_I (q_callB call_lenU ok_Len (by rfl) T.n_len (by rfl) (q_cons (q_var 0) (q_nil))) (q_int)) (q_nil))))) (q_nil))) (q_gname 2 sc_law.nd) (qs_one (q_ifs (q_not (q_tval (q_call (ok__law_one T) (hr.mono (by decide)) T.m__law_one T.F__law_one.kp T.b__law_one (takes_of rfl rfl rfl rfl) (q_cons (q_var 0) (q_cons (q_var 1) (q_nil)))))) (qs_one (q_ret (q_bl))) (qs_nil)))) <|
    qs_one (q_ret (q_bl))
end

end My1

namespace My1
open My
open PySem PySem.Spec PyProof.Rows L2 VL
def cs0 : Cs := ⟨0, 0, 0, 0, 0, 0, 0, 0, 0, 0, 0, 0, 0, 0⟩
theorem all_mk {l : PySem.W.OpenLaw} {w : World} {K : PySem.W.Frag} {h : Heap} {mg : Str → Option Value} {fa f_NoText_init f_is_number f_entry_kept f_Machine_init f_is_figures f_parts_of f_is_entry f_entry_from f_read_machine f__law_nextR f__law_sameN f__law_tableR f__law_text f__law_told f__law_bad_row f__law_more f__law_wrong f__law_one f_law C_Machine C_NoMachine C_NoMove C_NoNames C_NoNumber C_NoShape C_NoShot C_NoStretches C_NoText C_NoWidth C_TapeError C_TooLong : Addr} (X : K.In h) (G : h.Ns mainGlobals mg) (hfa : mg "law" = some (.ref fa))
    {od_NoText_init an_NoText_init od_is_number an_is_number od_entry_kept an_entry_kept od_Machine_init an_Machine_init od_is_figures an_is_figures od_parts_of an_parts_of od_is_entry an_is_entry od_entry_from an_entry_from od_read_machine an_read_machine od__law_nextR an__law_nextR od__law_sameN an__law_sameN od__law_tableR an__law_tableR od__law_text an__law_text od__law_told an__law_told od__law_bad_row an__law_bad_row od__law_more an__law_more od__law_wrong an__law_wrong od__law_one an__law_one od_law an_law : Option Addr} {sl_NoText_init sl_is_number sl_entry_kept sl_Machine_init sl_is_figures sl_parts_of sl_is_entry sl_entry_from sl_read_machine sl__law_nextR sl__law_sameN sl__law_tableR sl__law_text sl__law_told sl__law_bad_row sl__law_more sl__law_wrong sl__law_one sl_law : Array (Option Value)} {oc_NoText_init kV_NoText_init dc_NoText_init pm_NoText_init cd_NoText_init ct_NoText_init oc_is_number kV_is_number dc_is_number pm_is_number cd_is_number ct_is_number oc_entry_kept kV_entry_kept dc_entry_kept pm_entry_kept cd_entry_kept ct_entry_kept oc_Machine_init kV_Machine_init dc_Machine_init pm_Machine_init cd_Machine_init ct_Machine_init oc_is_figures kV_is_figures dc_is_figures pm_is_figures cd_is_figures ct_is_figures oc_parts_of kV_parts_of dc_parts_of pm_parts_of cd_parts_of ct_parts_of oc_is_entry kV_is_entry dc_is_entry pm_is_entry cd_is_entry ct_is_entry oc_entry_from kV_entry_from dc_entry_from pm_entry_from cd_entry_from ct_entry_from oc_read_machine kV_read_machine dc_read_machine pm_read_machine cd_read_machine ct_read_machine oc__law_nextR kV__law_nextR dc__law_nextR pm__law_nextR cd__law_nextR ct__law_nextR oc__law_sameN kV__law_sameN dc__law_sameN pm__law_sameN cd__law_sameN ct__law_sameN oc__law_tableR kV__law_tableR dc__law_tableR pm__law_tableR cd__law_tableR ct__law_tableR oc__law_text kV__law_text dc__law_text pm__law_text cd__law_text ct__law_text oc__law_told kV__law_told dc__law_told pm__law_told cd__law_told ct__law_told oc__law_bad_row kV__law_bad_row dc__law_bad_row pm__law_bad_row cd__law_bad_row ct__law_bad_row oc__law_more kV__law_more dc__law_more pm__law_more cd__law_more ct__law_more oc__law_wrong kV__law_wrong dc__law_wrong pm__law_wrong cd__law_wrong ct__law_wrong oc__law_one kV__law_one dc__law_one pm__law_one cd__law_one ct__law_one oc_law kV_law dc_law pm_law cd_law ct_law : Value} {t_FIGURES t_MOST_FIGURES : PySem.Tok}
    {nm_NoText qn_NoText : Str} {nN_NoText bb_NoText : Addr} {bs_NoText : List Value} {sn_NoText : List Str} {sb_NoText : List Value} {ab_NoText : Bool} {co_NoText : Option Bool} {dd_NoText : Option Addr} {k0_NoText k1_NoText k2_NoText k3_NoText k5_NoText : Option Value}
    (aC_NoMachine : PySem.W.nsIn K mainGlobals "NoMachine" = some (some (.ref C_NoMachine)))
    (aC_NoMove : PySem.W.nsIn K mainGlobals "NoMove" = some (some (.ref C_NoMove)))
    (aC_NoNames : PySem.W.nsIn K mainGlobals "NoNames" = some (some (.ref C_NoNames)))
    (aC_NoNumber : PySem.W.nsIn K mainGlobals "NoNumber" = some (some (.ref C_NoNumber)))
    (aC_NoShape : PySem.W.nsIn K mainGlobals "NoShape" = some (some (.ref C_NoShape)))
    (aC_NoShot : PySem.W.nsIn K mainGlobals "NoShot" = some (some (.ref C_NoShot)))
    (aC_NoStretches : PySem.W.nsIn K mainGlobals "NoStretches" = some (some (.ref C_NoStretches)))
    (aC_NoText : PySem.W.nsIn K mainGlobals "NoText" = some (some (.ref C_NoText)))
    (aC_NoWidth : PySem.W.nsIn K mainGlobals "NoWidth" = some (some (.ref C_NoWidth)))
    (aC_TapeError : PySem.W.nsIn K mainGlobals "TapeError" = some (some (.ref C_TapeError)))
    (aC_TooLong : PySem.W.nsIn K mainGlobals "TooLong" = some (some (.ref C_TooLong)))
    (e1_NoMachine : PySem.W.findIn K (.ref C_NoMachine) "__getattribute__" = some (some (.builtin "BaseException.__getattribute__")))
    (e2_NoMachine : PySem.W.findIn K (.ref C_NoMachine) "__getattr__" = some none)
    (e3_NoMachine : PySem.W.subIn K (.ref C_NoMachine) (.type "BaseException") = some true)
    (e4_NoMachine : PySem.W.hasDictIn K C_NoMachine = true)
    (e5_NoMachine : PySem.W.findIn K (.ref C_NoMachine) "__class__" = some (some (.builtin "object.__class__")))
    (e6_NoMachine : PySem.W.specialIn K (.builtin "object.__class__") "__get__" = some (some (.builtin "getset_descriptor.__get__")))
    (e7_NoMachine : PySem.W.takesIn K (.builtin "object.__class__") = some true)
    (e8_NoMachine : PySem.W.mroIn K C_NoMachine (.type "object") = some true)
    (e1_NoText : PySem.W.findIn K (.ref C_NoText) "__getattribute__" = some (some (.builtin "BaseException.__getattribute__")))
    (e2_NoText : PySem.W.findIn K (.ref C_NoText) "__getattr__" = some none)
    (e3_NoText : PySem.W.subIn K (.ref C_NoText) (.type "BaseException") = some true)
    (e4_NoText : PySem.W.hasDictIn K C_NoText = true)
    (e5_NoText : PySem.W.findIn K (.ref C_NoText) "__class__" = some (some (.builtin "object.__class__")))
    (e6_NoText : PySem.W.specialIn K (.builtin "object.__class__") "__get__" = some (some (.builtin "getset_descriptor.__get__")))
    (e7_NoText : PySem.W.takesIn K (.builtin "object.__class__") = some true)
    (e8_NoText : PySem.W.mroIn K C_NoText (.type "object") = some true)
    (ic_NoMachine : PySem.W.isClsIn K C_NoMachine = true)
    (it_NoMachine : PySem.W.typeIn K (.ref C_NoMachine) = some (.type "type"))
    (is_NoMachine : PySem.W.subIn K (.ref C_NoMachine) (.ref C_NoMachine) = some true)
    (sb_NoMachine_NoMachine : PySem.W.subIn K (.ref C_NoMachine) (.ref C_NoMachine) = some true)
    (ic_NoMove : PySem.W.isClsIn K C_NoMove = true)
    (it_NoMove : PySem.W.typeIn K (.ref C_NoMove) = some (.type "type"))
    (is_NoMove : PySem.W.subIn K (.ref C_NoMove) (.ref C_NoMove) = some true)
    (sb_NoMachine_NoMove : PySem.W.subIn K (.ref C_NoMachine) (.ref C_NoMove) = some false)
    (ic_NoNames : PySem.W.isClsIn K C_NoNames = true)
    (it_NoNames : PySem.W.typeIn K (.ref C_NoNames) = some (.type "type"))
    (is_NoNames : PySem.W.subIn K (.ref C_NoNames) (.ref C_NoNames) = some true)
    (sb_NoMachine_NoNames : PySem.W.subIn K (.ref C_NoMachine) (.ref C_NoNames) = some false)
    (ic_NoNumber : PySem.W.isClsIn K C_NoNumber = true)
    (it_NoNumber : PySem.W.typeIn K (.ref C_NoNumber) = some (.type "type"))
    (is_NoNumber : PySem.W.subIn K (.ref C_NoNumber) (.ref C_NoNumber) = some true)
    (sb_NoMachine_NoNumber : PySem.W.subIn K (.ref C_NoMachine) (.ref C_NoNumber) = some false)
    (ic_NoShape : PySem.W.isClsIn K C_NoShape = true)
    (it_NoShape : PySem.W.typeIn K (.ref C_NoShape) = some (.type "type"))
    (is_NoShape : PySem.W.subIn K (.ref C_NoShape) (.ref C_NoShape) = some true)
    (sb_NoMachine_NoShape : PySem.W.subIn K (.ref C_NoMachine) (.ref C_NoShape) = some false)
    (ic_NoShot : PySem.W.isClsIn K C_NoShot = true)
    (it_NoShot : PySem.W.typeIn K (.ref C_NoShot) = some (.type "type"))
    (is_NoShot : PySem.W.subIn K (.ref C_NoShot) (.ref C_NoShot) = some true)
    (sb_NoMachine_NoShot : PySem.W.subIn K (.ref C_NoMachine) (.ref C_NoShot) = some false)
    (ic_NoStretches : PySem.W.isClsIn K C_NoStretches = true)
    (it_NoStretches : PySem.W.typeIn K (.ref C_NoStretches) = some (.type "type"))
    (is_NoStretches : PySem.W.subIn K (.ref C_NoStretches) (.ref C_NoStretches) = some true)
    (sb_NoMachine_NoStretches : PySem.W.subIn K (.ref C_NoMachine) (.ref C_NoStretches) = some false)
    (ic_NoText : PySem.W.isClsIn K C_NoText = true)
    (it_NoText : PySem.W.typeIn K (.ref C_NoText) = some (.type "type"))
    (is_NoText : PySem.W.subIn K (.ref C_NoText) (.ref C_NoText) = some true)
    (sb_NoMachine_NoText : PySem.W.subIn K (.ref C_NoMachine) (.ref C_NoText) = some false)
    (ic_NoWidth : PySem.W.isClsIn K C_NoWidth = true)
    (it_NoWidth : PySem.W.typeIn K (.ref C_NoWidth) = some (.type "type"))
    (is_NoWidth : PySem.W.subIn K (.ref C_NoWidth) (.ref C_NoWidth) = some true)
    (sb_NoMachine_NoWidth : PySem.W.subIn K (.ref C_NoMachine) (.ref C_NoWidth) = some false)
    (ic_TooLong : PySem.W.isClsIn K C_TooLong = true)
    (it_TooLong : PySem.W.typeIn K (.ref C_TooLong) = some (.type "type"))
    (is_TooLong : PySem.W.subIn K (.ref C_TooLong) (.ref C_TooLong) = some true)
    (sb_NoMachine_TooLong : PySem.W.subIn K (.ref C_NoMachine) (.ref C_TooLong) = some false)
    (sb_NoText_NoMachine : PySem.W.subIn K (.ref C_NoText) (.ref C_NoMachine) = some false)
    (sb_NoText_NoMove : PySem.W.subIn K (.ref C_NoText) (.ref C_NoMove) = some false)
    (sb_NoText_NoNames : PySem.W.subIn K (.ref C_NoText) (.ref C_NoNames) = some false)
    (sb_NoText_NoNumber : PySem.W.subIn K (.ref C_NoText) (.ref C_NoNumber) = some false)
    (sb_NoText_NoShape : PySem.W.subIn K (.ref C_NoText) (.ref C_NoShape) = some false)
    (sb_NoText_NoShot : PySem.W.subIn K (.ref C_NoText) (.ref C_NoShot) = some false)
    (sb_NoText_NoStretches : PySem.W.subIn K (.ref C_NoText) (.ref C_NoStretches) = some false)
    (sb_NoText_NoText : PySem.W.subIn K (.ref C_NoText) (.ref C_NoText) = some true)
    (sb_NoText_NoWidth : PySem.W.subIn K (.ref C_NoText) (.ref C_NoWidth) = some false)
    (sb_NoText_TooLong : PySem.W.subIn K (.ref C_NoText) (.ref C_TooLong) = some false)
    (sT_NoMachine_ValueError : PySem.W.subIn K (.ref C_NoMachine) (.type "ValueError") = some true)
    (sT_NoText_ValueError : PySem.W.subIn K (.ref C_NoText) (.type "ValueError") = some true)
    (r1_NoMachine : PySem.W.excIn K C_NoMachine [.type "ValueError", .type "Exception", .type "BaseException", .type "object"] "ValueError.__new__" = true)
    (r2_NoMachine : PySem.W.subIn K (.ref C_NoMachine) (.type "BaseException") = some true)
    (r3_NoMachine : PySem.W.typeIn K (.ref C_NoMachine) = some (.type "type"))
    (r4_NoMachine : PySem.W.keepIn K (.ref C_NoMachine) = true)
    (ic_TapeError : PySem.W.isClsIn K C_TapeError = true)
    (it_TapeError : PySem.W.typeIn K (.ref C_TapeError) = some (.type "type"))
    (is_TapeError : PySem.W.subIn K (.ref C_TapeError) (.ref C_TapeError) = some true)
    (sb_NoMachine_TapeError : PySem.W.subIn K (.ref C_NoMachine) (.ref C_TapeError) = some true)
    (xb_TapeError : PySem.W.subIn K (.ref C_TapeError) (.type "BaseException") = some true)
    (sb_NoText_TapeError : PySem.W.subIn K (.ref C_NoText) (.ref C_TapeError) = some true)
    (aC_Machine : PySem.W.nsIn K mainGlobals "Machine" = some (some (.ref C_Machine)))
    (j1_Machine : PySem.W.findIn K (.ref C_Machine) "__class__" = some (some (.builtin "object.__class__")))
    (j2_Machine : PySem.W.specialIn K (.builtin "object.__class__") "__get__" = some (some (.builtin "getset_descriptor.__get__")))
    (j3_Machine : PySem.W.takesIn K (.builtin "object.__class__") = some true)
    (j4_Machine : PySem.W.mroIn K C_Machine (.type "object") = some true)
    (j5_Machine : PySem.W.isClsIn K C_Machine = true)
    (j6_Machine : PySem.W.typeIn K (.ref C_Machine) = some (.type "type"))
    (j7_Machine : PySem.W.subIn K (.ref C_Machine) (.ref C_Machine) = some true)
    (a_NoText_init : PySem.W.findIn K (.ref C_NoText) "__init__" = some (some (.ref f_NoText_init)))
    (i_NoText_init : PySem.W.isFn K (.ref f_NoText_init) = true)
    (lx_NoText : K.lookup C_NoText = some (PySem.excClassObj nm_NoText qn_NoText C_NoText nN_NoText bs_NoText [.ref bb_NoText, .type "ValueError", .type "Exception", .type "BaseException", .type "object"] true sn_NoText sb_NoText ab_NoText co_NoText dd_NoText k0_NoText k1_NoText k2_NoText k3_NoText k5_NoText "ValueError.__new__"))
    (o1_NoText : PySem.W.findIn K (.ref C_NoText) "__setattr__" = some (some (.builtin "object.__setattr__")))
    (o2_NoText : PySem.W.subIn K (.ref C_NoText) (.type "BaseException") = some true)
    (o3_NoText : PySem.W.typeIn K (.ref C_NoText) = some (.type "type"))
    (o4_NoText : PySem.W.keepIn K (.ref C_NoText) = true)
    (ty_NoText_init : PySem.W.typeIn K (.ref f_NoText_init) = some (.type "function"))
    (o5_NoText : PySem.W.findIn K (.ref C_NoText) "__getattribute__" = some (some (.builtin "BaseException.__getattribute__")))
    (o6_NoText : PySem.W.findIn K (.ref C_NoText) "__getattr__" = some none)
    (o7_NoText : PySem.W.hasDictIn K C_NoText = true)
    (nf_NoText : PySem.W.findIn K (.ref C_NoText) "line" = some none)
    (l_NoText_init : K.lookup f_NoText_init = some ⟨oc_NoText_init, od_NoText_init, .func (PySem.W.fnOf "__init__" "NoText.__init__" (defArgs s_NoText_init) (defBody s_NoText_init) (defScope s_NoText_init) .none kV_NoText_init dc_NoText_init pm_NoText_init an_NoText_init cd_NoText_init ct_NoText_init), sl_NoText_init⟩)
    (c_NoText_init : PySem.W.codeIn K cd_NoText_init "NoText.__init__" = true)
    (k_NoText_init : PySem.W.keepIn K (.ref f_NoText_init) = true)
    (a_is_number : PySem.W.nsIn K mainGlobals "is_number" = some (some (.ref f_is_number)))
    (l_is_number : K.lookup f_is_number = some ⟨oc_is_number, od_is_number, .func (PySem.W.fnOf "is_number" "is_number" (defArgs s_is_number) (defBody s_is_number) (defScope s_is_number) .none kV_is_number dc_is_number pm_is_number an_is_number cd_is_number ct_is_number), sl_is_number⟩)
    (c_is_number : PySem.W.codeIn K cd_is_number "is_number" = true)
    (k_is_number : PySem.W.keepIn K (.ref f_is_number) = true)
    (a_entry_kept : PySem.W.nsIn K mainGlobals "entry_kept" = some (some (.ref f_entry_kept)))
    (l_entry_kept : K.lookup f_entry_kept = some ⟨oc_entry_kept, od_entry_kept, .func (PySem.W.fnOf "entry_kept" "entry_kept" (defArgs s_entry_kept) (defBody s_entry_kept) (defScope s_entry_kept) .none kV_entry_kept dc_entry_kept pm_entry_kept an_entry_kept cd_entry_kept ct_entry_kept), sl_entry_kept⟩)
    (c_entry_kept : PySem.W.codeIn K cd_entry_kept "entry_kept" = true)
    (k_entry_kept : PySem.W.keepIn K (.ref f_entry_kept) = true)
    (a_Machine_init : PySem.W.findIn K (.ref C_Machine) "__init__" = some (some (.ref f_Machine_init)))
    (i_Machine_init : PySem.W.isFn K (.ref f_Machine_init) = true)
    (l_Machine_init : K.lookup f_Machine_init = some ⟨oc_Machine_init, od_Machine_init, .func (PySem.W.fnOf "__init__" "Machine.__init__" (defArgs s_Machine_init) (defBody s_Machine_init) (defScope s_Machine_init) .none kV_Machine_init dc_Machine_init pm_Machine_init an_Machine_init cd_Machine_init ct_Machine_init), sl_Machine_init⟩)
    (c_Machine_init : PySem.W.codeIn K cd_Machine_init "Machine.__init__" = true)
    (k_Machine_init : PySem.W.keepIn K (.ref f_Machine_init) = true)
    (a_is_figures : PySem.W.nsIn K mainGlobals "is_figures" = some (some (.ref f_is_figures)))
    (l_is_figures : K.lookup f_is_figures = some ⟨oc_is_figures, od_is_figures, .func (PySem.W.fnOf "is_figures" "is_figures" (defArgs s_is_figures) (defBody s_is_figures) (defScope s_is_figures) .none kV_is_figures dc_is_figures pm_is_figures an_is_figures cd_is_figures ct_is_figures), sl_is_figures⟩)
    (c_is_figures : PySem.W.codeIn K cd_is_figures "is_figures" = true)
    (k_is_figures : PySem.W.keepIn K (.ref f_is_figures) = true)
    (a_parts_of : PySem.W.nsIn K mainGlobals "parts_of" = some (some (.ref f_parts_of)))
    (l_parts_of : K.lookup f_parts_of = some ⟨oc_parts_of, od_parts_of, .func (PySem.W.fnOf "parts_of" "parts_of" (defArgs s_parts_of) (defBody s_parts_of) (defScope s_parts_of) .none kV_parts_of dc_parts_of pm_parts_of an_parts_of cd_parts_of ct_parts_of), sl_parts_of⟩)
    (c_parts_of : PySem.W.codeIn K cd_parts_of "parts_of" = true)
    (k_parts_of : PySem.W.keepIn K (.ref f_parts_of) = true)
    (a_is_entry : PySem.W.nsIn K mainGlobals "is_entry" = some (some (.ref f_is_entry)))
    (l_is_entry : K.lookup f_is_entry = some ⟨oc_is_entry, od_is_entry, .func (PySem.W.fnOf "is_entry" "is_entry" (defArgs s_is_entry) (defBody s_is_entry) (defScope s_is_entry) .none kV_is_entry dc_is_entry pm_is_entry an_is_entry cd_is_entry ct_is_entry), sl_is_entry⟩)
    (c_is_entry : PySem.W.codeIn K cd_is_entry "is_entry" = true)
    (k_is_entry : PySem.W.keepIn K (.ref f_is_entry) = true)
    (a_entry_from : PySem.W.nsIn K mainGlobals "entry_from" = some (some (.ref f_entry_from)))
    (l_entry_from : K.lookup f_entry_from = some ⟨oc_entry_from, od_entry_from, .func (PySem.W.fnOf "entry_from" "entry_from" (defArgs s_entry_from) (defBody s_entry_from) (defScope s_entry_from) .none kV_entry_from dc_entry_from pm_entry_from an_entry_from cd_entry_from ct_entry_from), sl_entry_from⟩)
    (c_entry_from : PySem.W.codeIn K cd_entry_from "entry_from" = true)
    (k_entry_from : PySem.W.keepIn K (.ref f_entry_from) = true)
    (a_read_machine : PySem.W.nsIn K mainGlobals "read_machine" = some (some (.ref f_read_machine)))
    (l_read_machine : K.lookup f_read_machine = some ⟨oc_read_machine, od_read_machine, .func (PySem.W.fnOf "read_machine" "read_machine" (defArgs s_read_machine) (defBody s_read_machine) (defScope s_read_machine) .none kV_read_machine dc_read_machine pm_read_machine an_read_machine cd_read_machine ct_read_machine), sl_read_machine⟩)
    (c_read_machine : PySem.W.codeIn K cd_read_machine "read_machine" = true)
    (k_read_machine : PySem.W.keepIn K (.ref f_read_machine) = true)
    (a__law_nextR : PySem.W.nsIn K mainGlobals "_law_next" = some (some (.ref f__law_nextR)))
    (l__law_nextR : K.lookup f__law_nextR = some ⟨oc__law_nextR, od__law_nextR, .func (PySem.W.fnOf "_law_next" "_law_next" (defArgs s__law_nextR) (defBody s__law_nextR) (defScope s__law_nextR) .none kV__law_nextR dc__law_nextR pm__law_nextR an__law_nextR cd__law_nextR ct__law_nextR), sl__law_nextR⟩)
    (c__law_nextR : PySem.W.codeIn K cd__law_nextR "_law_next" = true)
    (k__law_nextR : PySem.W.keepIn K (.ref f__law_nextR) = true)
    (a__law_sameN : PySem.W.nsIn K mainGlobals "_law_same" = some (some (.ref f__law_sameN)))
    (l__law_sameN : K.lookup f__law_sameN = some ⟨oc__law_sameN, od__law_sameN, .func (PySem.W.fnOf "_law_same" "_law_same" (defArgs s__law_sameN) (defBody s__law_sameN) (defScope s__law_sameN) .none kV__law_sameN dc__law_sameN pm__law_sameN an__law_sameN cd__law_sameN ct__law_sameN), sl__law_sameN⟩)
    (c__law_sameN : PySem.W.codeIn K cd__law_sameN "_law_same" = true)
    (k__law_sameN : PySem.W.keepIn K (.ref f__law_sameN) = true)
    (a__law_tableR : PySem.W.nsIn K mainGlobals "_law_table" = some (some (.ref f__law_tableR)))
    (l__law_tableR : K.lookup f__law_tableR = some ⟨oc__law_tableR, od__law_tableR, .func (PySem.W.fnOf "_law_table" "_law_table" (defArgs s__law_tableR) (defBody s__law_tableR) (defScope s__law_tableR) .none kV__law_tableR dc__law_tableR pm__law_tableR an__law_tableR cd__law_tableR ct__law_tableR), sl__law_tableR⟩)
    (c__law_tableR : PySem.W.codeIn K cd__law_tableR "_law_table" = true)
    (k__law_tableR : PySem.W.keepIn K (.ref f__law_tableR) = true)
    (a__law_text : PySem.W.nsIn K mainGlobals "_law_text" = some (some (.ref f__law_text)))
    (l__law_text : K.lookup f__law_text = some ⟨oc__law_text, od__law_text, .func (PySem.W.fnOf "_law_text" "_law_text" (defArgs s__law_text) (defBody s__law_text) (defScope s__law_text) .none kV__law_text dc__law_text pm__law_text an__law_text cd__law_text ct__law_text), sl__law_text⟩)
    (c__law_text : PySem.W.codeIn K cd__law_text "_law_text" = true)
    (k__law_text : PySem.W.keepIn K (.ref f__law_text) = true)
    (a__law_told : PySem.W.nsIn K mainGlobals "_law_told" = some (some (.ref f__law_told)))
    (l__law_told : K.lookup f__law_told = some ⟨oc__law_told, od__law_told, .func (PySem.W.fnOf "_law_told" "_law_told" (defArgs s__law_told) (defBody s__law_told) (defScope s__law_told) .none kV__law_told dc__law_told pm__law_told an__law_told cd__law_told ct__law_told), sl__law_told⟩)
    (c__law_told : PySem.W.codeIn K cd__law_told "_law_told" = true)
    (k__law_told : PySem.W.keepIn K (.ref f__law_told) = true)
    (a__law_bad_row : PySem.W.nsIn K mainGlobals "_law_bad_row" = some (some (.ref f__law_bad_row)))
    (l__law_bad_row : K.lookup f__law_bad_row = some ⟨oc__law_bad_row, od__law_bad_row, .func (PySem.W.fnOf "_law_bad_row" "_law_bad_row" (defArgs s__law_bad_row) (defBody s__law_bad_row) (defScope s__law_bad_row) .none kV__law_bad_row dc__law_bad_row pm__law_bad_row an__law_bad_row cd__law_bad_row ct__law_bad_row), sl__law_bad_row⟩)
    (c__law_bad_row : PySem.W.codeIn K cd__law_bad_row "_law_bad_row" = true)
    (k__law_bad_row : PySem.W.keepIn K (.ref f__law_bad_row) = true)
    (a__law_more : PySem.W.nsIn K mainGlobals "_law_more" = some (some (.ref f__law_more)))
    (l__law_more : K.lookup f__law_more = some ⟨oc__law_more, od__law_more, .func (PySem.W.fnOf "_law_more" "_law_more" (defArgs s__law_more) (defBody s__law_more) (defScope s__law_more) .none kV__law_more dc__law_more pm__law_more an__law_more cd__law_more ct__law_more), sl__law_more⟩)
    (c__law_more : PySem.W.codeIn K cd__law_more "_law_more" = true)
    (k__law_more : PySem.W.keepIn K (.ref f__law_more) = true)
    (a__law_wrong : PySem.W.nsIn K mainGlobals "_law_wrong" = some (some (.ref f__law_wrong)))
    (l__law_wrong : K.lookup f__law_wrong = some ⟨oc__law_wrong, od__law_wrong, .func (PySem.W.fnOf "_law_wrong" "_law_wrong" (defArgs s__law_wrong) (defBody s__law_wrong) (defScope s__law_wrong) .none kV__law_wrong dc__law_wrong pm__law_wrong an__law_wrong cd__law_wrong ct__law_wrong), sl__law_wrong⟩)
    (c__law_wrong : PySem.W.codeIn K cd__law_wrong "_law_wrong" = true)
    (k__law_wrong : PySem.W.keepIn K (.ref f__law_wrong) = true)
    (a__law_one : PySem.W.nsIn K mainGlobals "_law_one" = some (some (.ref f__law_one)))
    (l__law_one : K.lookup f__law_one = some ⟨oc__law_one, od__law_one, .func (PySem.W.fnOf "_law_one" "_law_one" (defArgs s__law_one) (defBody s__law_one) (defScope s__law_one) .none kV__law_one dc__law_one pm__law_one an__law_one cd__law_one ct__law_one), sl__law_one⟩)
    (c__law_one : PySem.W.codeIn K cd__law_one "_law_one" = true)
    (k__law_one : PySem.W.keepIn K (.ref f__law_one) = true)
    (a_law : PySem.W.nsIn K mainGlobals "law" = some (some (.ref f_law)))
    (l_law : K.lookup f_law = some ⟨oc_law, od_law, .func (PySem.W.fnOf "law" "law" (defArgs s_law) (defBody s_law) (defScope s_law) .none kV_law dc_law pm_law an_law cd_law ct_law), sl_law⟩)
    (c_law : PySem.W.codeIn K cd_law "law" = true)
    (k_law : PySem.W.keepIn K (.ref f_law) = true)
    (pg_Machine : PySem.W.plainGet K C_Machine Str.empty = true)
    (hd_Machine : PySem.W.hasDictIn K C_Machine = true)
    (po_Machine : PySem.W.plainOver K C_Machine = true)
    (sa_Machine : PySem.W.findIn K (.ref C_Machine) "__setattr__" = some (some (.builtin "object.__setattr__")))
    (mk_Machine : PySem.W.makesIn K C_Machine = true)
    (kc_Machine : PySem.W.keepIn K (.ref C_Machine) = true)
    (n_Machine_table : PySem.W.findIn K (.ref C_Machine) "table" = some none)
    (g_FIGURES : PySem.W.nsIn K mainGlobals "FIGURES" = some (some (.str "0123456789" t_FIGURES)))
    (g_MOST_FIGURES : PySem.W.nsIn K mainGlobals "MOST_FIGURES" = some (some (.int 60 t_MOST_FIGURES)))
    (z_ValueError : PySem.W.nsIn K mainGlobals "ValueError" = some none)
    (z_all : PySem.W.nsIn K mainGlobals "all" = some none)
    (z_bool : PySem.W.nsIn K mainGlobals "bool" = some none)
    (z_dict : PySem.W.nsIn K mainGlobals "dict" = some none)
    (z_enumerate : PySem.W.nsIn K mainGlobals "enumerate" = some none)
    (z_int : PySem.W.nsIn K mainGlobals "int" = some none)
    (z_isinstance : PySem.W.nsIn K mainGlobals "isinstance" = some none)
    (z_len : PySem.W.nsIn K mainGlobals "len" = some none)
    (z_list : PySem.W.nsIn K mainGlobals "list" = some none)
    (z_max : PySem.W.nsIn K mainGlobals "max" = some none)
    (z_min : PySem.W.nsIn K mainGlobals "min" = some none)
    (z_range : PySem.W.nsIn K mainGlobals "range" = some none)
    (z_str : PySem.W.nsIn K mainGlobals "str" = some none)
    (z_tuple : PySem.W.nsIn K mainGlobals "tuple" = some none)
    (z_zip : PySem.W.nsIn K mainGlobals "zip" = some none)
    : ∃ fd : FuncData, (∀ (s : Shared) (v : Value), BindsTo s fd ⟨[v], []⟩ [("_law_script", v)]) ∧ ∀ base : Heap, K.In base → base.Ns mainGlobals mg → FnOk l.prog w K mg base (L2.CX l.prog w) 8 fa fd ["_law_script"] (spV K [.F] [.F] (W_law cs0)) := by
  have e : f_law = fa := by simpa using (PySem.W.mg_of X G a_law).symm.trans hfa
  subst e
  let A : Cs := { C_Machine := C_Machine, C_Run := 0, C_NoMachine := C_NoMachine, C_NoShot := C_NoShot, C_TapeError := C_TapeError, C_NoNames := C_NoNames, C_NoNumber := C_NoNumber, C_NoStretches := C_NoStretches, C_TooLong := C_TooLong, C_NoShape := C_NoShape, C_NoMove := C_NoMove, C_NoWidth := C_NoWidth, C_NoText := C_NoText, C_Ribbon := 0 }
  let D : Ad := { A := A, a_NoText_init := f_NoText_init, d_NoText_init := PySem.W.fnOf "__init__" "NoText.__init__" (defArgs s_NoText_init) (defBody s_NoText_init) (defScope s_NoText_init) .none kV_NoText_init dc_NoText_init pm_NoText_init an_NoText_init cd_NoText_init ct_NoText_init, a_is_number := f_is_number, d_is_number := PySem.W.fnOf "is_number" "is_number" (defArgs s_is_number) (defBody s_is_number) (defScope s_is_number) .none kV_is_number dc_is_number pm_is_number an_is_number cd_is_number ct_is_number, a_entry_kept := f_entry_kept, d_entry_kept := PySem.W.fnOf "entry_kept" "entry_kept" (defArgs s_entry_kept) (defBody s_entry_kept) (defScope s_entry_kept) .none kV_entry_kept dc_entry_kept pm_entry_kept an_entry_kept cd_entry_kept ct_entry_kept, a_Machine_init := f_Machine_init, d_Machine_init := PySem.W.fnOf "__init__" "Machine.__init__" (defArgs s_Machine_init) (defBody s_Machine_init) (defScope s_Machine_init) .none kV_Machine_init dc_Machine_init pm_Machine_init an_Machine_init cd_Machine_init ct_Machine_init, a_is_figures := f_is_figures, d_is_figures := PySem.W.fnOf "is_figures" "is_figures" (defArgs s_is_figures) (defBody s_is_figures) (defScope s_is_figures) .none kV_is_figures dc_is_figures pm_is_figures an_is_figures cd_is_figures ct_is_figures, a_parts_of := f_parts_of, d_parts_of := PySem.W.fnOf "parts_of" "parts_of" (defArgs s_parts_of) (defBody s_parts_of) (defScope s_parts_of) .none kV_parts_of dc_parts_of pm_parts_of an_parts_of cd_parts_of ct_parts_of, a_is_entry := f_is_entry, d_is_entry := PySem.W.fnOf "is_entry" "is_entry" (defArgs s_is_entry) (defBody s_is_entry) (defScope s_is_entry) .none kV_is_entry dc_is_entry pm_is_entry an_is_entry cd_is_entry ct_is_entry, a_entry_from := f_entry_from, d_entry_from := PySem.W.fnOf "entry_from" "entry_from" (defArgs s_entry_from) (defBody s_entry_from) (defScope s_entry_from) .none kV_entry_from dc_entry_from pm_entry_from an_entry_from cd_entry_from ct_entry_from, a_read_machine := f_read_machine, d_read_machine := PySem.W.fnOf "read_machine" "read_machine" (defArgs s_read_machine) (defBody s_read_machine) (defScope s_read_machine) .none kV_read_machine dc_read_machine pm_read_machine an_read_machine cd_read_machine ct_read_machine, a__law_nextR := f__law_nextR, d__law_nextR := PySem.W.fnOf "_law_next" "_law_next" (defArgs s__law_nextR) (defBody s__law_nextR) (defScope s__law_nextR) .none kV__law_nextR dc__law_nextR pm__law_nextR an__law_nextR cd__law_nextR ct__law_nextR, a__law_sameN := f__law_sameN, d__law_sameN := PySem.W.fnOf "_law_same" "_law_same" (defArgs s__law_sameN) (defBody s__law_sameN) (defScope s__law_sameN) .none kV__law_sameN dc__law_sameN pm__law_sameN an__law_sameN cd__law_sameN ct__law_sameN, a__law_tableR := f__law_tableR, d__law_tableR := PySem.W.fnOf "_law_table" "_law_table" (defArgs s__law_tableR) (defBody s__law_tableR) (defScope s__law_tableR) .none kV__law_tableR dc__law_tableR pm__law_tableR an__law_tableR cd__law_tableR ct__law_tableR, a__law_text := f__law_text, d__law_text := PySem.W.fnOf "_law_text" "_law_text" (defArgs s__law_text) (defBody s__law_text) (defScope s__law_text) .none kV__law_text dc__law_text pm__law_text an__law_text cd__law_text ct__law_text, a__law_told := f__law_told, d__law_told := PySem.W.fnOf "_law_told" "_law_told" (defArgs s__law_told) (defBody s__law_told) (defScope s__law_told) .none kV__law_told dc__law_told pm__law_told an__law_told cd__law_told ct__law_told, a__law_bad_row := f__law_bad_row, d__law_bad_row := PySem.W.fnOf "_law_bad_row" "_law_bad_row" (defArgs s__law_bad_row) (defBody s__law_bad_row) (defScope s__law_bad_row) .none kV__law_bad_row dc__law_bad_row pm__law_bad_row an__law_bad_row cd__law_bad_row ct__law_bad_row, a__law_more := f__law_more, d__law_more := PySem.W.fnOf "_law_more" "_law_more" (defArgs s__law_more) (defBody s__law_more) (defScope s__law_more) .none kV__law_more dc__law_more pm__law_more an__law_more cd__law_more ct__law_more, a__law_wrong := f__law_wrong, d__law_wrong := PySem.W.fnOf "_law_wrong" "_law_wrong" (defArgs s__law_wrong) (defBody s__law_wrong) (defScope s__law_wrong) .none kV__law_wrong dc__law_wrong pm__law_wrong an__law_wrong cd__law_wrong ct__law_wrong, a__law_one := f__law_one, d__law_one := PySem.W.fnOf "_law_one" "_law_one" (defArgs s__law_one) (defBody s__law_one) (defScope s__law_one) .none kV__law_one dc__law_one pm__law_one an__law_one cd__law_one ct__law_one, a_law := f_law, d_law := PySem.W.fnOf "law" "law" (defArgs s_law) (defBody s_law) (defScope s_law) .none kV_law dc_law pm_law an_law cd_law ct_law, v_FIGURES := .str "0123456789", u_FIGURES := .str "0123456789" t_FIGURES, v_MOST_FIGURES := .int 60, u_MOST_FIGURES := .int 60 t_MOST_FIGURES }
  have F_NoText_init := fun_mk (st := s_NoText_init) l_NoText_init c_NoText_init k_NoText_init
  have b_NoText_init := F_NoText_init.binds (ps := ["self", "line"]) fun _ _ _ _ _ _ us hl => match us, hl with | [_, _], _ => rfl
  have F_is_number := fun_mk (st := s_is_number) l_is_number c_is_number k_is_number
  have b_is_number := F_is_number.binds (ps := ["thing", "many"]) fun _ _ _ _ _ _ us hl => match us, hl with | [_, _], _ => rfl
  have F_entry_kept := fun_mk (st := s_entry_kept) l_entry_kept c_entry_kept k_entry_kept
  have b_entry_kept := F_entry_kept.binds (ps := ["entry", "states", "signs"]) fun _ _ _ _ _ _ us hl => match us, hl with | [_, _, _], _ => rfl
  have F_Machine_init := fun_mk (st := s_Machine_init) l_Machine_init c_Machine_init k_Machine_init
  have b_Machine_init := F_Machine_init.binds (ps := ["self", "table"]) fun _ _ _ _ _ _ us hl => match us, hl with | [_, _], _ => rfl
  have F_is_figures := fun_mk (st := s_is_figures) l_is_figures c_is_figures k_is_figures
  have b_is_figures := F_is_figures.binds (ps := ["piece"]) fun _ _ _ _ _ _ us hl => match us, hl with | [_], _ => rfl
  have F_parts_of := fun_mk (st := s_parts_of) l_parts_of c_parts_of k_parts_of
  have b_parts_of := F_parts_of.binds (ps := ["piece"]) fun _ _ _ _ _ _ us hl => match us, hl with | [_], _ => rfl
  have F_is_entry := fun_mk (st := s_is_entry) l_is_entry c_is_entry k_is_entry
  have b_is_entry := F_is_entry.binds (ps := ["piece"]) fun _ _ _ _ _ _ us hl => match us, hl with | [_], _ => rfl
  have F_entry_from := fun_mk (st := s_entry_from) l_entry_from c_entry_from k_entry_from
  have b_entry_from := F_entry_from.binds (ps := ["piece"]) fun _ _ _ _ _ _ us hl => match us, hl with | [_], _ => rfl
  have F_read_machine := fun_mk (st := s_read_machine) l_read_machine c_read_machine k_read_machine
  have b_read_machine := F_read_machine.binds (ps := ["text"]) fun _ _ _ _ _ _ us hl => match us, hl with | [_], _ => rfl
  have F__law_nextR := fun_mk (st := s__law_nextR) l__law_nextR c__law_nextR k__law_nextR
  have b__law_nextR := F__law_nextR.binds (ps := ["_law_script", "_law_at"]) fun _ _ _ _ _ _ us hl => match us, hl with | [_, _], _ => rfl
  have F__law_sameN := fun_mk (st := s__law_sameN) l__law_sameN c__law_sameN k__law_sameN
  have b__law_sameN := F__law_sameN.binds (ps := ["_law_found", "_law_due"]) fun _ _ _ _ _ _ us hl => match us, hl with | [_, _], _ => rfl
  have F__law_tableR := fun_mk (st := s__law_tableR) l__law_tableR c__law_tableR k__law_tableR
  have b__law_tableR := F__law_tableR.binds (ps := ["_law_script", "_law_at", "_law_states", "_law_signs"]) fun _ _ _ _ _ _ us hl => match us, hl with | [_, _, _, _], _ => rfl
  have F__law_text := fun_mk (st := s__law_text) l__law_text c__law_text k__law_text
  have b__law_text := F__law_text.binds (ps := ["_law_table_here"]) fun _ _ _ _ _ _ us hl => match us, hl with | [_], _ => rfl
  have F__law_told := fun_mk (st := s__law_told) l__law_told c__law_told k__law_told
  have b__law_told := F__law_told.binds (ps := ["_law_text_here"]) fun _ _ _ _ _ _ us hl => match us, hl with | [_], _ => rfl
  have F__law_bad_row := fun_mk (st := s__law_bad_row) l__law_bad_row c__law_bad_row k__law_bad_row
  have b__law_bad_row := F__law_bad_row.binds (ps := ["_law_script", "_law_at", "_law_row"]) fun _ _ _ _ _ _ us hl => match us, hl with | [_, _, _], _ => rfl
  have F__law_more := fun_mk (st := s__law_more) l__law_more c__law_more k__law_more
  have b__law_more := F__law_more.binds (ps := ["_law_script", "_law_at", "_law_rows"]) fun _ _ _ _ _ _ us hl => match us, hl with | [_, _, _], _ => rfl
  have F__law_wrong := fun_mk (st := s__law_wrong) l__law_wrong c__law_wrong k__law_wrong
  have b__law_wrong := F__law_wrong.binds (ps := ["_law_script", "_law_at", "_law_table_here"]) fun _ _ _ _ _ _ us hl => match us, hl with | [_, _, _], _ => rfl
  have F__law_one := fun_mk (st := s__law_one) l__law_one c__law_one k__law_one
  have b__law_one := F__law_one.binds (ps := ["_law_script", "_law_at"]) fun _ _ _ _ _ _ us hl => match us, hl with | [_, _], _ => rfl
  have F_law := fun_mk (st := s_law) l_law c_law k_law
  have b_law := F_law.binds (ps := ["_law_script"]) fun _ _ _ _ _ _ us hl => match us, hl with | [_], _ => rfl
  have T : Txt K mg D := {
    ec_NoMachine := ⟨e1_NoMachine, e2_NoMachine, e3_NoMachine, e4_NoMachine, e5_NoMachine, e6_NoMachine, e7_NoMachine, e8_NoMachine⟩,
    ec_NoText := ⟨e1_NoText, e2_NoText, e3_NoText, e4_NoText, e5_NoText, e6_NoText, e7_NoText, e8_NoText⟩,
    ik_NoMachine_NoMachine := VL.kone_of ic_NoMachine it_NoMachine sb_NoMachine_NoMachine is_NoMachine,
    ik_NoMachine_NoMove := VL.kone_of ic_NoMove it_NoMove sb_NoMachine_NoMove is_NoMove,
    ik_NoMachine_NoNames := VL.kone_of ic_NoNames it_NoNames sb_NoMachine_NoNames is_NoNames,
    ik_NoMachine_NoNumber := VL.kone_of ic_NoNumber it_NoNumber sb_NoMachine_NoNumber is_NoNumber,
    ik_NoMachine_NoShape := VL.kone_of ic_NoShape it_NoShape sb_NoMachine_NoShape is_NoShape,
    ik_NoMachine_NoShot := VL.kone_of ic_NoShot it_NoShot sb_NoMachine_NoShot is_NoShot,
    ik_NoMachine_NoStretches := VL.kone_of ic_NoStretches it_NoStretches sb_NoMachine_NoStretches is_NoStretches,
    ik_NoMachine_NoText := VL.kone_of ic_NoText it_NoText sb_NoMachine_NoText is_NoText,
    ik_NoMachine_NoWidth := VL.kone_of ic_NoWidth it_NoWidth sb_NoMachine_NoWidth is_NoWidth,
    ik_NoMachine_TooLong := VL.kone_of ic_TooLong it_TooLong sb_NoMachine_TooLong is_TooLong,
    ik_NoText_NoMachine := VL.kone_of ic_NoMachine it_NoMachine sb_NoText_NoMachine is_NoMachine,
    ik_NoText_NoMove := VL.kone_of ic_NoMove it_NoMove sb_NoText_NoMove is_NoMove,
    ik_NoText_NoNames := VL.kone_of ic_NoNames it_NoNames sb_NoText_NoNames is_NoNames,
    ik_NoText_NoNumber := VL.kone_of ic_NoNumber it_NoNumber sb_NoText_NoNumber is_NoNumber,
    ik_NoText_NoShape := VL.kone_of ic_NoShape it_NoShape sb_NoText_NoShape is_NoShape,
    ik_NoText_NoShot := VL.kone_of ic_NoShot it_NoShot sb_NoText_NoShot is_NoShot,
    ik_NoText_NoStretches := VL.kone_of ic_NoStretches it_NoStretches sb_NoText_NoStretches is_NoStretches,
    ik_NoText_NoText := VL.kone_of ic_NoText it_NoText sb_NoText_NoText is_NoText,
    ik_NoText_NoWidth := VL.kone_of ic_NoWidth it_NoWidth sb_NoText_NoWidth is_NoWidth,
    ik_NoText_TooLong := VL.kone_of ic_TooLong it_TooLong sb_NoText_TooLong is_TooLong,
    it_NoMachine_ValueError := VL.kty_of VL.meta_VE sT_NoMachine_ValueError,
    it_NoText_ValueError := VL.kty_of VL.meta_VE sT_NoText_ValueError,
    m_NoMachine := PySem.W.mg_of X G aC_NoMachine,
    m_NoMove := PySem.W.mg_of X G aC_NoMove,
    m_NoNames := PySem.W.mg_of X G aC_NoNames,
    m_NoNumber := PySem.W.mg_of X G aC_NoNumber,
    m_NoShape := PySem.W.mg_of X G aC_NoShape,
    m_NoShot := PySem.W.mg_of X G aC_NoShot,
    m_NoStretches := PySem.W.mg_of X G aC_NoStretches,
    m_NoText := PySem.W.mg_of X G aC_NoText,
    m_NoWidth := PySem.W.mg_of X G aC_NoWidth,
    m_TapeError := PySem.W.mg_of X G aC_TapeError,
    m_TooLong := PySem.W.mg_of X G aC_TooLong,
    rs_NoMachine := ⟨r1_NoMachine, r2_NoMachine, r3_NoMachine, r4_NoMachine⟩,
    xm_NoMachine_TapeError := VL.xm_of xb_TapeError ic_TapeError it_TapeError sb_NoMachine_TapeError,
    xm_NoText_TapeError := VL.xm_of xb_TapeError ic_TapeError it_TapeError sb_NoText_TapeError,
    ic_Machine := ⟨⟨pg_Machine, hd_Machine, po_Machine, sa_Machine⟩, j1_Machine, j2_Machine, j3_Machine, j4_Machine, VL.kone_of j5_Machine j6_Machine j7_Machine j7_Machine⟩,
    ox_NoText := ⟨⟨_, _, _, _, _, _, _, _, _, _, _, _, _, _, _, lx_NoText, by show PySem.HandSPX.refsVE [.type "ValueError", .type "Exception", .type "BaseException", .type "object"] = true; decide +kernel⟩, o1_NoText, o2_NoText, o3_NoText, o4_NoText⟩, ni_NoText := a_NoText_init, nt_NoText := ty_NoText_init, xc_NoText := ⟨o5_NoText, o6_NoText, o2_NoText, o7_NoText⟩, nf_NoText := nf_NoText,
    n_ValueError := PySem.W.mg_none_of X G z_ValueError,
    n_all := PySem.W.mg_none_of X G z_all,
    n_bool := PySem.W.mg_none_of X G z_bool,
    n_dict := PySem.W.mg_none_of X G z_dict,
    n_enumerate := PySem.W.mg_none_of X G z_enumerate,
    n_int := PySem.W.mg_none_of X G z_int,
    n_isinstance := PySem.W.mg_none_of X G z_isinstance,
    n_len := PySem.W.mg_none_of X G z_len,
    n_list := PySem.W.mg_none_of X G z_list,
    n_max := PySem.W.mg_none_of X G z_max,
    n_min := PySem.W.mg_none_of X G z_min,
    n_range := PySem.W.mg_none_of X G z_range,
    n_str := PySem.W.mg_none_of X G z_str,
    n_tuple := PySem.W.mg_none_of X G z_tuple,
    n_zip := PySem.W.mg_none_of X G z_zip,
    F_NoText_init := F_NoText_init, b_NoText_init := b_NoText_init,
    F_is_number := F_is_number, b_is_number := b_is_number,
    m_is_number := PySem.W.mg_of X G a_is_number,
    F_entry_kept := F_entry_kept, b_entry_kept := b_entry_kept,
    m_entry_kept := PySem.W.mg_of X G a_entry_kept,
    F_Machine_init := F_Machine_init, b_Machine_init := b_Machine_init,
    F_is_figures := F_is_figures, b_is_figures := b_is_figures,
    m_is_figures := PySem.W.mg_of X G a_is_figures,
    F_parts_of := F_parts_of, b_parts_of := b_parts_of,
    m_parts_of := PySem.W.mg_of X G a_parts_of,
    F_is_entry := F_is_entry, b_is_entry := b_is_entry,
    m_is_entry := PySem.W.mg_of X G a_is_entry,
    F_entry_from := F_entry_from, b_entry_from := b_entry_from,
    m_entry_from := PySem.W.mg_of X G a_entry_from,
    F_read_machine := F_read_machine, b_read_machine := b_read_machine,
    m_read_machine := PySem.W.mg_of X G a_read_machine,
    F__law_nextR := F__law_nextR, b__law_nextR := b__law_nextR,
    m__law_nextR := PySem.W.mg_of X G a__law_nextR,
    F__law_sameN := F__law_sameN, b__law_sameN := b__law_sameN,
    m__law_sameN := PySem.W.mg_of X G a__law_sameN,
    F__law_tableR := F__law_tableR, b__law_tableR := b__law_tableR,
    m__law_tableR := PySem.W.mg_of X G a__law_tableR,
    F__law_text := F__law_text, b__law_text := b__law_text,
    m__law_text := PySem.W.mg_of X G a__law_text,
    F__law_told := F__law_told, b__law_told := b__law_told,
    m__law_told := PySem.W.mg_of X G a__law_told,
    F__law_bad_row := F__law_bad_row, b__law_bad_row := b__law_bad_row,
    m__law_bad_row := PySem.W.mg_of X G a__law_bad_row,
    F__law_more := F__law_more, b__law_more := b__law_more,
    m__law_more := PySem.W.mg_of X G a__law_more,
    F__law_wrong := F__law_wrong, b__law_wrong := b__law_wrong,
    m__law_wrong := PySem.W.mg_of X G a__law_wrong,
    F__law_one := F__law_one, b__law_one := b__law_one,
    m__law_one := PySem.W.mg_of X G a__law_one,
    F_law := F_law, b_law := b_law,
    m_law := PySem.W.mg_of X G a_law,
    m_Machine := PySem.W.mg_of X G aC_Machine, cl_Machine := ⟨pg_Machine, hd_Machine, po_Machine, sa_Machine⟩,
    mk_Machine := ⟨mk_Machine, a_Machine_init, i_Machine_init, kc_Machine⟩,
    na_Machine_table := n_Machine_table,
    c_FIGURES := fun _ => .str _, m_FIGURES := PySem.W.mg_of X G g_FIGURES, r_FIGURES := ⟨_, rfl⟩,
    c_MOST_FIGURES := fun _ => .int _, m_MOST_FIGURES := PySem.W.mg_of X G g_MOST_FIGURES, r_MOST_FIGURES := ⟨_, rfl⟩ }
  exact ⟨_, fun s v => .of_eq rfl, fun base _ _ => ok_law T⟩
theorem walk {l : PySem.W.OpenLaw} {q : Program} {loose : List Str} {XP : (Str → Option Value) → Heap → Prop} {YP : World → Heap → Prop} {d : DefRec} {K : Params → PySem.W.Frag} (hn : l.most = some 63) (hdf : d.params.defaults = [])
    (hY : ∀ (w : World) (h : Heap), YP w h → (K w.params).In h)
    (F : ∀ (w : World) (mg : Str → Option Value) (fa : Addr) (h : Heap), (K w.params).In h → h.Ns mainGlobals mg → mg d.name = some (.ref fa) → ∃ fd : FuncData, (∀ (s : Shared) (u : Value), BindsTo s fd ⟨[u], []⟩ [("_law_script", u)]) ∧ ∀ base : Heap, (K w.params).In base → base.Ns mainGlobals mg → FnOk l.prog w (K w.params) mg base (L2.CX l.prog w) 8 fa fd ["_law_script"] (spV (K w.params) [.F] [.F] (W_law cs0))) :
    PySem.W.WalkO q loose XP YP l.row.toRowW d [] (fun f vs => PySem.call f vs) :=
  L2.walk_of (n := 63) (k := 8) (x := "_law_script") (CX := fun w => L2.CX l.prog w) (sp := fun w => spV (K w.params) [.F] [.F] (W_law cs0)) hn (by decide) hdf ⟨rfl, by decide, by decide⟩ hY F (fun w H a ns hl _ hS => law_start hS (fun P hP => ⟨ns, rfl, hl, hP⟩)) fun _ _ _ _ _ z => by
    obtain ⟨_, _, _, _, _, _, _, _, _, _, _, _, z⟩ := z
    exact z
end My1
open PySem PySem.W PyProof.Rows
set_option maxRecDepth 100000 in
set_option maxHeartbeats 0 in
theorem PySem.Challenge.cw_tapeproof_k71_spoilt_texts_holds : PySem.Challenge.rw_tapeproof_k71_spoilt_texts.Holds := by
  w_on; o_law; k_head; (case hw => w_witness2)
  k_fill
  refine My1.walk (l := PySem.Challenge.rw_tapeproof_k71_spoilt_texts) rfl rfl (fun w h Y => PySem.W.kIn_of Y) ?F
  case F =>
    intro w mg fa h KX G hmg
    refine' My1.all_mk KX G hmg ?aC_NoMachine ?aC_NoMove ?aC_NoNames ?aC_NoNumber ?aC_NoShape ?aC_NoShot ?aC_NoStretches ?aC_NoText ?aC_NoWidth ?aC_TapeError ?aC_TooLong ?e1_NoMachine ?e2_NoMachine ?e3_NoMachine ?e4_NoMachine ?e5_NoMachine ?e6_NoMachine ?e7_NoMachine ?e8_NoMachine ?e1_NoText ?e2_NoText ?e3_NoText ?e4_NoText ?e5_NoText ?e6_NoText ?e7_NoText ?e8_NoText ?ic_NoMachine ?it_NoMachine ?is_NoMachine ?sb_NoMachine_NoMachine ?ic_NoMove ?it_NoMove ?is_NoMove ?sb_NoMachine_NoMove ?ic_NoNames ?it_NoNames ?is_NoNames ?sb_NoMachine_NoNames ?ic_NoNumber ?it_NoNumber ?is_NoNumber ?sb_NoMachine_NoNumber ?ic_NoShape ?it_NoShape ?is_NoShape ?sb_NoMachine_NoShape ?ic_NoShot ?it_NoShot ?is_NoShot ?sb_NoMachine_NoShot ?ic_NoStretches ?it_NoStretches ?is_NoStretches ?sb_NoMachine_NoStretches ?ic_NoText ?it_NoText ?is_NoText ?sb_NoMachine_NoText ?ic_NoWidth ?it_NoWidth ?is_NoWidth ?sb_NoMachine_NoWidth ?ic_TooLong ?it_TooLong ?is_TooLong ?sb_NoMachine_TooLong ?sb_NoText_NoMachine ?sb_NoText_NoMove ?sb_NoText_NoNames ?sb_NoText_NoNumber ?sb_NoText_NoShape ?sb_NoText_NoShot ?sb_NoText_NoStretches ?sb_NoText_NoText ?sb_NoText_NoWidth ?sb_NoText_TooLong ?sT_NoMachine_ValueError ?sT_NoText_ValueError ?r1_NoMachine ?r2_NoMachine ?r3_NoMachine ?r4_NoMachine ?ic_TapeError ?it_TapeError ?is_TapeError ?sb_NoMachine_TapeError ?xb_TapeError ?sb_NoText_TapeError ?aC_Machine ?j1_Machine ?j2_Machine ?j3_Machine ?j4_Machine ?j5_Machine ?j6_Machine ?j7_Machine ?a_NoText_init ?i_NoText_init ?lx_NoText ?o1_NoText ?o2_NoText ?o3_NoText ?o4_NoText ?ty_NoText_init ?o5_NoText ?o6_NoText ?o7_NoText ?nf_NoText ?l_NoText_init ?c_NoText_init ?k_NoText_init ?a_is_number ?l_is_number ?c_is_number ?k_is_number ?a_entry_kept ?l_entry_kept ?c_entry_kept ?k_entry_kept ?a_Machine_init ?i_Machine_init ?l_Machine_init ?c_Machine_init ?k_Machine_init ?a_is_figures ?l_is_figures ?c_is_figures ?k_is_figures ?a_parts_of ?l_parts_of ?c_parts_of ?k_parts_of ?a_is_entry ?l_is_entry ?c_is_entry ?k_is_entry ?a_entry_from ?l_entry_from ?c_entry_from ?k_entry_from ?a_read_machine ?l_read_machine ?c_read_machine ?k_read_machine ?a__law_nextR ?l__law_nextR ?c__law_nextR ?k__law_nextR ?a__law_sameN ?l__law_sameN ?c__law_sameN ?k__law_sameN ?a__law_tableR ?l__law_tableR ?c__law_tableR ?k__law_tableR ?a__law_text ?l__law_text ?c__law_text ?k__law_text ?a__law_told ?l__law_told ?c__law_told ?k__law_told ?a__law_bad_row ?l__law_bad_row ?c__law_bad_row ?k__law_bad_row ?a__law_more ?l__law_more ?c__law_more ?k__law_more ?a__law_wrong ?l__law_wrong ?c__law_wrong ?k__law_wrong ?a__law_one ?l__law_one ?c__law_one ?k__law_one ?a_law ?l_law ?c_law ?k_law ?pg_Machine ?hd_Machine ?po_Machine ?sa_Machine ?mk_Machine ?kc_Machine ?n_Machine_table ?g_FIGURES ?g_MOST_FIGURES ?z_ValueError ?z_all ?z_bool ?z_dict ?z_enumerate ?z_int ?z_isinstance ?z_len ?z_list ?z_max ?z_min ?z_range ?z_str ?z_tuple ?z_zip
    (case aC_NoMachine => k_is)
    (case aC_NoMove => k_is)
    (case aC_NoNames => k_is)
    (case aC_NoNumber => k_is)
    (case aC_NoShape => k_is)
    (case aC_NoShot => k_is)
    (case aC_NoStretches => k_is)
    (case aC_NoText => k_is)
    (case aC_NoWidth => k_is)
    (case aC_TapeError => k_is)
    (case aC_TooLong => k_is)
    (case e1_NoMachine => k_is)
    (case e2_NoMachine => k_is)
    (case e3_NoMachine => k_is)
    (case e4_NoMachine => k_is)
    (case e5_NoMachine => k_is)
    (case e6_NoMachine => k_is)
    (case e7_NoMachine => k_is)
    (case e8_NoMachine => k_is)
    (case e1_NoText => k_is)
    (case e2_NoText => k_is)
    (case e3_NoText => k_is)
    (case e4_NoText => k_is)
    (case e5_NoText => k_is)
    (case e6_NoText => k_is)
    (case e7_NoText => k_is)
    (case e8_NoText => k_is)
    (case ic_NoMachine => k_is)
    (case it_NoMachine => k_is)
    (case is_NoMachine => k_is)
    (case sb_NoMachine_NoMachine => k_is)
    (case ic_NoMove => k_is)
    (case it_NoMove => k_is)
    (case is_NoMove => k_is)
    (case sb_NoMachine_NoMove => k_is)
    (case ic_NoNames => k_is)
    (case it_NoNames => k_is)
    (case is_NoNames => k_is)
    (case sb_NoMachine_NoNames => k_is)
    (case ic_NoNumber => k_is)
    (case it_NoNumber => k_is)
    (case is_NoNumber => k_is)
    (case sb_NoMachine_NoNumber => k_is)
    (case ic_NoShape => k_is)
    (case it_NoShape => k_is)
    (case is_NoShape => k_is)
    (case sb_NoMachine_NoShape => k_is)
    (case ic_NoShot => k_is)
    (case it_NoShot => k_is)
    (case is_NoShot => k_is)
    (case sb_NoMachine_NoShot => k_is)
    (case ic_NoStretches => k_is)
    (case it_NoStretches => k_is)
    (case is_NoStretches => k_is)
    (case sb_NoMachine_NoStretches => k_is)
    (case ic_NoText => k_is)
    (case it_NoText => k_is)
    (case is_NoText => k_is)
    (case sb_NoMachine_NoText => k_is)
    (case ic_NoWidth => k_is)
    (case it_NoWidth => k_is)
    (case is_NoWidth => k_is)
    (case sb_NoMachine_NoWidth => k_is)
    (case ic_TooLong => k_is)
    (case it_TooLong => k_is)
    (case is_TooLong => k_is)
    (case sb_NoMachine_TooLong => k_is)
    (case sb_NoText_NoMachine => k_is)
    (case sb_NoText_NoMove => k_is)
    (case sb_NoText_NoNames => k_is)
    (case sb_NoText_NoNumber => k_is)
    (case sb_NoText_NoShape => k_is)
    (case sb_NoText_NoShot => k_is)
    (case sb_NoText_NoStretches => k_is)
    (case sb_NoText_NoText => k_is)
    (case sb_NoText_NoWidth => k_is)
    (case sb_NoText_TooLong => k_is)
    (case sT_NoMachine_ValueError => k_is)
    (case sT_NoText_ValueError => k_is)
    (case r1_NoMachine => k_exc)
    (case r2_NoMachine => k_is)
    (case r3_NoMachine => k_is)
    (case r4_NoMachine => k_is)
    (case ic_TapeError => k_is)
    (case it_TapeError => k_is)
    (case is_TapeError => k_is)
    (case sb_NoMachine_TapeError => k_is)
    (case xb_TapeError => k_is)
    (case sb_NoText_TapeError => k_is)
    (case aC_Machine => k_is)
    (case j1_Machine => k_is)
    (case j2_Machine => k_is)
    (case j3_Machine => k_is)
    (case j4_Machine => k_is)
    (case j5_Machine => k_is)
    (case j6_Machine => k_is)
    (case j7_Machine => k_is)
    (case a_NoText_init => k_is)
    (case i_NoText_init => k_is)
    (case lx_NoText => k_is)
    (case o1_NoText => k_is)
    (case o2_NoText => k_is)
    (case o3_NoText => k_is)
    (case o4_NoText => k_is)
    (case ty_NoText_init => k_is)
    (case o5_NoText => k_is)
    (case o6_NoText => k_is)
    (case o7_NoText => k_is)
    (case nf_NoText => k_is)
    (case l_NoText_init => k_is)
    (case c_NoText_init => k_is)
    (case k_NoText_init => k_is)
    (case a_is_number => k_is)
    (case l_is_number => k_is)
    (case c_is_number => k_is)
    (case k_is_number => k_is)
    (case a_entry_kept => k_is)
    (case l_entry_kept => k_is)
    (case c_entry_kept => k_is)
    (case k_entry_kept => k_is)
    (case a_Machine_init => k_is)
    (case i_Machine_init => k_is)
    (case l_Machine_init => k_is)
    (case c_Machine_init => k_is)
    (case k_Machine_init => k_is)
    (case a_is_figures => k_is)
    (case l_is_figures => k_is)
    (case c_is_figures => k_is)
    (case k_is_figures => k_is)
    (case a_parts_of => k_is)
    (case l_parts_of => k_is)
    (case c_parts_of => k_is)
    (case k_parts_of => k_is)
    (case a_is_entry => k_is)
    (case l_is_entry => k_is)
    (case c_is_entry => k_is)
    (case k_is_entry => k_is)
    (case a_entry_from => k_is)
    (case l_entry_from => k_is)
    (case c_entry_from => k_is)
    (case k_entry_from => k_is)
    (case a_read_machine => k_is)
    (case l_read_machine => k_is)
    (case c_read_machine => k_is)
    (case k_read_machine => k_is)
    (case a__law_nextR => k_is)
    (case l__law_nextR => k_is)
    (case c__law_nextR => k_is)
    (case k__law_nextR => k_is)
    (case a__law_sameN => k_is)
    (case l__law_sameN => k_is)
    (case c__law_sameN => k_is)
    (case k__law_sameN => k_is)
    (case a__law_tableR => k_is)
    (case l__law_tableR => k_is)
    (case c__law_tableR => k_is)
    (case k__law_tableR => k_is)
    (case a__law_text => k_is)
    (case l__law_text => k_is)
    (case c__law_text => k_is)
    (case k__law_text => k_is)
    (case a__law_told => k_is)
    (case l__law_told => k_is)
    (case c__law_told => k_is)
    (case k__law_told => k_is)
    (case a__law_bad_row => k_is)
    (case l__law_bad_row => k_is)
    (case c__law_bad_row => k_is)
    (case k__law_bad_row => k_is)
    (case a__law_more => k_is)
    (case l__law_more => k_is)
    (case c__law_more => k_is)
    (case k__law_more => k_is)
    (case a__law_wrong => k_is)
    (case l__law_wrong => k_is)
    (case c__law_wrong => k_is)
    (case k__law_wrong => k_is)
    (case a__law_one => k_is)
    (case l__law_one => k_is)
    (case c__law_one => k_is)
    (case k__law_one => k_is)
    (case a_law => k_is)
    (case l_law => k_is)
    (case c_law => k_is)
    (case k_law => k_is)
    (case pg_Machine => k_is)
    (case hd_Machine => k_is)
    (case po_Machine => k_is)
    (case sa_Machine => k_is)
    (case mk_Machine => k_is)
    (case kc_Machine => k_is)
    (case n_Machine_table => k_is)
    (case g_FIGURES => k_is)
    (case g_MOST_FIGURES => k_is)
    (case z_ValueError => k_is)
    (case z_all => k_is)
    (case z_bool => k_is)
    (case z_dict => k_is)
    (case z_enumerate => k_is)
    (case z_int => k_is)
    (case z_isinstance => k_is)
    (case z_len => k_is)
    (case z_list => k_is)
    (case z_max => k_is)
    (case z_min => k_is)
    (case z_range => k_is)
    (case z_str => k_is)
    (case z_tuple => k_is)
    (case z_zip => k_is)
#print axioms PySem.Challenge.cw_tapeproof_k71_spoilt_texts_holds

