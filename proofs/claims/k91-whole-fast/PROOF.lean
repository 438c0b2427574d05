import PyProof.Rows.All
import Wide.All
import OpenK.AllK
import Wide.FinOn
import HandS.ForMost
import HandS.ForExc
import KE.KDictKeyed
import HandS.CallSlots
import HandS.Rev
import HandS.Zip
import HandS.RevRange
import HandS.Conv
import HandS.IsInst
import HandS.SortInts
import HandS.More
import HandS.Wide
import HandS.Text
import HandS.WordsDict
import HandS.TupAny
import HandS.Small
import HandS.Style
import KE.GoesMore
import PyProof.Draws
import PyProof.EnumMake
import HandS.Exc
import HandS.ExcIs
import HandS.ExcOwn
import HandS.ExcValue
import PyProof.ExcBaseAll.ValueError
import PyProof.ZipIter
import PyProof.ListNew
import HandS.TryOnly
import HandS.Defaults
import PyProof.LongRange
import PySem.Challenge.RW_tapeproof_k91_whole_fast
set_option Elab.async false
set_option linter.all false
set_option maxRecDepth 100000
set_option maxHeartbeats 4000000
namespace VL
open PySem PySem.Spec PyProof.Rows L2

/-- plain data -/
inductive D where
  | non | bl (b : Bool) | int (i : Int) | str (x : Str)
  | lst (xs : List D) | tup (xs : List D) | dct (kvs : List (Key × D)) | obj (C : Addr) (fs : List (Str × D)) | scr (ns : List Int) | exc (C : Addr) | ndc (kvs : List (NestedKey × D))
/-- a caught exception of the class cls, kept -/
def ExK (cls : Value) (a : Addr) : HO := .ext fun h => ∃ (oe : Obj) (vs : Array Value), h.get? a = some oe ∧ Zc cls none oe ∧ oe.data = .fields vs

/-! dicts whose keys are nested tuples of whole numbers -/
mutual
def nkOk : NestedKey → Bool
  | .none => true
  | .num _ => true
  | .text _ => false
  | .tup ks => nkOks ks
def nkOks : List NestedKey → Bool
  | [] => true
  | k :: ks => nkOk k && nkOks ks
end
mutual
def nkHash : NestedKey → Int
  | .none => reduceHash 0xFCA86420
  | .num i => hashInt i
  | .text _ => 0
  | .tup ks => reduceHash (Builtin.Tuple.tupleHashOf (nkHashes ks))
def nkHashes : List NestedKey → List Int
  | [] => []
  | k :: ks => nkHash k :: nkHashes ks
end
def isTup : NestedKey → Bool
  | .tup _ => true
  | _ => false
/-- the data of a key -/
def nkGood (k : NestedKey) : Bool := nkOk k && isTup k && Nat.ble k.depth 8
mutual
def nkD : NestedKey → D
  | .none => .non
  | .num i => .int i
  | .text x => .str x
  | .tup ks => .tup (nkDs ks)
def nkDs : List NestedKey → List D
  | [] => []
  | k :: ks => nkD k :: nkDs ks
end
abbrev NEnt := NestedKey × Addr × V
abbrev NRel (p : NEnt) (q : NestedKey × Addr × Value) : Prop := p.1 = q.1 ∧ p.2.1 = q.2.1 ∧ RelV p.2.2 q.2.2
/-- the object of such a dict: the keys' own tuples stand at the addresses told -/
def NDo (a : Addr) (ep : Nat) (xs : List NEnt) : HO := .ext fun h => xs.length ≤ sizeLine ∧ (a == sysModules) = false ∧ (xs.map (·.1)).Nodup ∧ (∀ x ∈ xs, nkGood x.1 = true) ∧
  ∃ (ys : List (NestedKey × Addr × Value)) (o : Obj) (es : Array DictEntry), Paired NRel xs ys ∧ h.get? a = some o ∧ o.ExactDict ∧ o.data = .dict es ep ∧ es.toList = ys.map fun x => ⟨nkHash x.1, .ref x.2.1, x.2.2⟩

def Ex (H H' : Hp) : Prop := ∀ a o, H a = some o → H' a = some o
theorem Ex.refl (H : Hp) : Ex H H := fun _ _ h => h
theorem Ex.trans {H H1 H2 : Hp} (a : Ex H H1) (b : Ex H1 H2) : Ex H H2 := fun x o h => b x o (a x o h)
theorem Ex.new {H : Hp} {p : Addr} {o : HO} (h : H p = none) : Ex H (upd H p o) := fun a u e => by
  rw [upd_ne (ne_of_none e h)]
  exact e
theorem Ex.rd {H H' : Hp} {a : Addr} {u : HO} (e : Ex H H') (h : Rd H a u) : Rd H' a u := by
  rcases h with h | ⟨o, h⟩
  · exact Or.inl (e a _ h)
  · exact Or.inr ⟨o, e a _ h⟩
theorem Ex.l {K : PySem.W.Frag} {H H' : Hp} {a : Addr} {xs : List V} (e : Ex H H') (h : SqL K H a xs) : SqL K H' a xs := by
  rcases h with h | h
  · exact Or.inl (e.rd h)
  · exact Or.inr h
theorem Ex.t {K : PySem.W.Frag} {H H' : Hp} {a : Addr} {xs : List V} (e : Ex H H') (h : SqT K H a xs) : SqT K H' a xs := by
  rcases h with h | h
  · exact Or.inl (e.rd h)
  · exact Or.inr h
theorem Ex.free {H H' : Hp} {p : Addr} (e : Ex H H') (h : H' p = none) : H p = none := by
  cases h1 : H p with
  | none => rfl
  | some o => rw [e p o h1] at h; cases h

mutual
/-- the value v is the data d, all of it standing in G -/
inductive Dt (K : PySem.W.Frag) (G : Hp) : V → D → Prop
  | non : Dt K G .non .non
  | bl (b : Bool) : Dt K G (.bl b) (.bl b)
  | int (i : Int) : Dt K G (.int i) (.int i)
  | str (x : Str) : Dt K G (.str x) (.str x)
  | lst {a : Addr} {xs : List V} {ds : List D} : G a = some (.lst xs) → DtA K G xs ds → Dt K G (.ref a) (.lst ds)
  | scr {a : Addr} {ns : List Int} : SqL K G a (ns.map V.int) → Dt K G (.ref a) (.scr ns)
  | tup {a : Addr} {xs : List V} {ds : List D} : SqT K G a xs → DtA K G xs ds → Dt K G (.ref a) (.tup ds)
  | dct {a : Addr} {kvs : List (Key × V)} {ds : List (Key × D)} : Rd G a (.dK kvs) → DtK K G kvs ds → Dt K G (.ref a) (.dct ds)
  | exc {a C : Addr} : G a = some (ExK (.ref C) a) → Dt K G (.ref a) (.exc C)
  | ndc {a : Addr} {ep : Nat} {kvs : List NEnt} {ds : List (NestedKey × D)} : G a = some (NDo a ep kvs) → DtN K G kvs ds → Dt K G (.ref a) (.ndc ds)
  | obj {a C dx : Addr} {fs : List (Str × V)} {ds : List (Str × D)} : G a = some (.ins C dx fs) → (ds.map (·.1)).Nodup → DtF K G fs ds → Dt K G (.ref a) (.obj C ds)
inductive DtA (K : PySem.W.Frag) (G : Hp) : List V → List D → Prop
  | nil : DtA K G [] []
  | cons {v : V} {d : D} {vs : List V} {ds : List D} : Dt K G v d → DtA K G vs ds → DtA K G (v :: vs) (d :: ds)
inductive DtK (K : PySem.W.Frag) (G : Hp) : List (Key × V) → List (Key × D) → Prop
  | nil : DtK K G [] []
  | cons {k : Key} {v : V} {d : D} {vs : List (Key × V)} {ds : List (Key × D)} : Dt K G v d → DtK K G vs ds → DtK K G ((k, v) :: vs) ((k, d) :: ds)
inductive DtF (K : PySem.W.Frag) (G : Hp) : List (Str × V) → List (Str × D) → Prop
  | nil : DtF K G [] []
  | cons {k : Str} {v : V} {d : D} {vs : List (Str × V)} {ds : List (Str × D)} : Dt K G v d → DtF K G vs ds → DtF K G ((k, v) :: vs) ((k, d) :: ds)
inductive DtN (K : PySem.W.Frag) (G : Hp) : List NEnt → List (NestedKey × D) → Prop
  | nil : DtN K G [] []
  | cons {k : NestedKey} {b : Addr} {v : V} {d : D} {vs : List NEnt} {ds : List (NestedKey × D)} : Dt K G (.ref b) (nkD k) → Dt K G v d → DtN K G vs ds → DtN K G ((k, b, v) :: vs) ((k, d) :: ds)
end
section
variable {K : PySem.W.Frag} {G G' : Hp}
mutual
theorem Dt.mono (e : Ex G G') : ∀ {v : V} {d : D}, Dt K G v d → Dt K G' v d
  | _, _, .non => .non
  | _, _, .bl b => .bl b
  | _, _, .int i => .int i
  | _, _, .str x => .str x
  | _, _, .lst h a => .lst (e _ _ h) (DtA.mono e a)
  | _, _, .scr h => .scr (e.l h)
  | _, _, .exc h => .exc (e _ _ h)
  | _, _, .ndc h a => .ndc (e _ _ h) (DtN.mono e a)
  | _, _, .tup h a => .tup (e.t h) (DtA.mono e a)
  | _, _, .dct h a => .dct (e.rd h) (DtK.mono e a)
  | _, _, .obj h n a => .obj (e _ _ h) n (DtF.mono e a)
theorem DtA.mono (e : Ex G G') : ∀ {v : List V} {d : List D}, DtA K G v d → DtA K G' v d
  | _, _, .nil => .nil
  | _, _, .cons h t => .cons (Dt.mono e h) (DtA.mono e t)
theorem DtK.mono (e : Ex G G') : ∀ {v : List (Key × V)} {d : List (Key × D)}, DtK K G v d → DtK K G' v d
  | _, _, .nil => .nil
  | _, _, .cons h t => .cons (Dt.mono e h) (DtK.mono e t)
theorem DtF.mono (e : Ex G G') : ∀ {v : List (Str × V)} {d : List (Str × D)}, DtF K G v d → DtF K G' v d
  | _, _, .nil => .nil
  | _, _, .cons h t => .cons (Dt.mono e h) (DtF.mono e t)
theorem DtN.mono (e : Ex G G') : ∀ {v : List NEnt} {d : List (NestedKey × D)}, DtN K G v d → DtN K G' v d
  | _, _, .nil => .nil
  | _, _, .cons h h' t => .cons (Dt.mono e h) (Dt.mono e h') (DtN.mono e t)
end
end

/-! ### owned things -/
/-- how a slot's value is held: F: nobody changes it; L m: a list of the slot's own, its items held so; K: a dict of its own; O: an instance of its own, its fields held so; P m: held as m, and the slot keeps its thing -/
inductive Md where
  | F | L (m : Md) | K | N | M (m : Md) | O (ms : List Md) | P (m : Md) | T (ms : List Md) | A (ms : List Md)
mutual
inductive R (K : PySem.W.Frag) (G H : Hp) : Md → V → D → List Addr → Prop
  | F {v : V} {d : D} : Dt K G v d → R K G H .F v d []
  | L {m : Md} {a : Addr} {xs : List V} {ds : List D} {fp : List Addr} : H a = some (.lst xs) → RA K G H m xs ds fp → R K G H (.L m) (.ref a) (.lst ds) (a :: fp)
  | K {a : Addr} {kvs : List (Key × V)} {ds : List (Key × D)} : H a = some (.dK kvs) → DtK K G kvs ds → R K G H .K (.ref a) (.dct ds) [a]
  | N {a : Addr} {ep : Nat} {kvs : List NEnt} {ds : List (NestedKey × D)} : H a = some (NDo a ep kvs) → DtN K G kvs ds → R K G H .N (.ref a) (.ndc ds) [a]
  | M {m : Md} {a : Addr} {kvs : List (Key × V)} {ds : List (Key × D)} {fp : List Addr} : H a = some (.dK kvs) → RK K G H m kvs ds fp → R K G H (.M m) (.ref a) (.dct ds) (a :: fp)
  | O {ms : List Md} {a C dx : Addr} {fs : List (Str × V)} {ds : List (Str × D)} {fp : List Addr} : H a = some (.ins C dx fs) → (ds.map (·.1)).Nodup → RF K G H ms fs ds fp → R K G H (.O ms) (.ref a) (.obj C ds) (a :: fp)
  | P {m : Md} {v : V} {d : D} {fp : List Addr} : R K G H m v d fp → R K G H (.P m) v d fp
  | T {ms : List Md} {a : Addr} {xs : List V} {ds : List D} {fp : List Addr} : G a = some (.tup xs) → RS K G H ms xs ds fp → R K G H (.T ms) (.ref a) (.tup ds) fp
  | A {ms : List Md} {a : Addr} {xs : List V} {ds : List D} {fp : List Addr} : H a = some (.lst xs) → RS K G H ms xs ds fp → R K G H (.A ms) (.ref a) (.lst ds) (a :: fp)
inductive RA (K : PySem.W.Frag) (G H : Hp) : Md → List V → List D → List Addr → Prop
  | nil {m : Md} : RA K G H m [] [] []
  | cons {m : Md} {v : V} {d : D} {vs : List V} {ds : List D} {fp fq : List Addr} : R K G H m v d fp → RA K G H m vs ds fq → RA K G H m (v :: vs) (d :: ds) (fp ++ fq)
inductive RK (K : PySem.W.Frag) (G H : Hp) : Md → List (Key × V) → List (Key × D) → List Addr → Prop
  | nil {m : Md} : RK K G H m [] [] []
  | cons {m : Md} {k : Key} {v : V} {d : D} {vs : List (Key × V)} {ds : List (Key × D)} {fp fq : List Addr} : R K G H m v d fp → RK K G H m vs ds fq → RK K G H m ((k, v) :: vs) ((k, d) :: ds) (fp ++ fq)
inductive RS (K : PySem.W.Frag) (G H : Hp) : List Md → List V → List D → List Addr → Prop
  | nil : RS K G H [] [] [] []
  | cons {m : Md} {ms : List Md} {v : V} {d : D} {vs : List V} {ds : List D} {fp fq : List Addr} : R K G H m v d fp → RS K G H ms vs ds fq → RS K G H (m :: ms) (v :: vs) (d :: ds) (fp ++ fq)
inductive RF (K : PySem.W.Frag) (G H : Hp) : List Md → List (Str × V) → List (Str × D) → List Addr → Prop
  | nil : RF K G H [] [] [] []
  | cons {m : Md} {ms : List Md} {k : Str} {v : V} {d : D} {vs : List (Str × V)} {ds : List (Str × D)} {fp fq : List Addr} : R K G H m v d fp → RF K G H ms vs ds fq → RF K G H (m :: ms) ((k, v) :: vs) ((k, d) :: ds) (fp ++ fq)
end
section
variable {K : PySem.W.Frag} {G G' H H' : Hp}
mutual
/-- what is held stands where its own addresses and the frozen part stand -/
theorem R.keep (e : Ex G G') : ∀ {m : Md} {v : V} {d : D} {fp : List Addr}, R K G H m v d fp → (∀ a ∈ fp, ∀ o, H a = some o → H' a = some o) → R K G' H' m v d fp
  | _, _, _, _, .F h, _ => .F (h.mono e)
  | _, _, _, _, .L h t, k => .L (k _ List.mem_cons_self _ h) (RA.keep e t fun a ha => k a (List.mem_cons_of_mem _ ha))
  | _, _, _, _, .K h t, k => .K (k _ List.mem_cons_self _ h) (t.mono e)
  | _, _, _, _, .N h t, k => .N (k _ List.mem_cons_self _ h) (t.mono e)
  | _, _, _, _, .M h t, k => .M (k _ List.mem_cons_self _ h) (RK.keep e t fun a ha => k a (List.mem_cons_of_mem _ ha))
  | _, _, _, _, .O h n t, k => .O (k _ List.mem_cons_self _ h) n (RF.keep e t fun a ha => k a (List.mem_cons_of_mem _ ha))
  | _, _, _, _, .P h, k => .P (R.keep e h k)
  | _, _, _, _, .T h t, k => .T (e _ _ h) (RS.keep e t k)
  | _, _, _, _, .A h t, k => .A (k _ List.mem_cons_self _ h) (RS.keep e t fun a ha => k a (List.mem_cons_of_mem _ ha))
theorem RS.keep (e : Ex G G') : ∀ {m : List Md} {v : List V} {d : List D} {fp : List Addr}, RS K G H m v d fp → (∀ a ∈ fp, ∀ o, H a = some o → H' a = some o) → RS K G' H' m v d fp
  | _, _, _, _, .nil, _ => .nil
  | _, _, _, _, .cons h t, k => .cons (R.keep e h fun a ha => k a (List.mem_append_left _ ha)) (RS.keep e t fun a ha => k a (List.mem_append_right _ ha))
theorem RA.keep (e : Ex G G') : ∀ {m : Md} {v : List V} {d : List D} {fp : List Addr}, RA K G H m v d fp → (∀ a ∈ fp, ∀ o, H a = some o → H' a = some o) → RA K G' H' m v d fp
  | _, _, _, _, .nil, _ => .nil
  | _, _, _, _, .cons h t, k => .cons (R.keep e h fun a ha => k a (List.mem_append_left _ ha)) (RA.keep e t fun a ha => k a (List.mem_append_right _ ha))
theorem RK.keep (e : Ex G G') : ∀ {m : Md} {v : List (Key × V)} {d : List (Key × D)} {fp : List Addr}, RK K G H m v d fp → (∀ a ∈ fp, ∀ o, H a = some o → H' a = some o) → RK K G' H' m v d fp
  | _, _, _, _, .nil, _ => .nil
  | _, _, _, _, .cons h t, k => .cons (R.keep e h fun a ha => k a (List.mem_append_left _ ha)) (RK.keep e t fun a ha => k a (List.mem_append_right _ ha))
theorem RF.keep (e : Ex G G') : ∀ {m : List Md} {v : List (Str × V)} {d : List (Str × D)} {fp : List Addr}, RF K G H m v d fp → (∀ a ∈ fp, ∀ o, H a = some o → H' a = some o) → RF K G' H' m v d fp
  | _, _, _, _, .nil, _ => .nil
  | _, _, _, _, .cons h t, k => .cons (R.keep e h fun a ha => k a (List.mem_append_left _ ha)) (RF.keep e t fun a ha => k a (List.mem_append_right _ ha))
end
mutual
/-- an owned address is tracked -/
theorem R.has : ∀ {m : Md} {v : V} {d : D} {fp : List Addr}, R K G H m v d fp → ∀ a ∈ fp, H a ≠ none
  | _, _, _, _, .F _, _, h => nomatch h
  | _, _, _, _, .L h t, a, ha => by
    rcases List.mem_cons.mp ha with rfl | ha
    · rw [h]; exact fun z => nomatch z
    · exact RA.has t a ha
  | _, _, _, _, .K h t, a, ha => by
    rcases List.mem_cons.mp ha with rfl | ha
    · rw [h]; exact fun z => nomatch z
    · exact nomatch ha
  | _, _, _, _, .N h t, a, ha => by
    rcases List.mem_cons.mp ha with rfl | ha
    · rw [h]; exact fun z => nomatch z
    · exact nomatch ha
  | _, _, _, _, .M h t, a, ha => by
    rcases List.mem_cons.mp ha with rfl | ha
    · rw [h]; exact fun z => nomatch z
    · exact RK.has t a ha
  | _, _, _, _, .O h n t, a, ha => by
    rcases List.mem_cons.mp ha with rfl | ha
    · rw [h]; exact fun z => nomatch z
    · exact RF.has t a ha
  | _, _, _, _, .P h, a, ha => R.has h a ha
  | _, _, _, _, .T _ t, a, ha => RS.has t a ha
  | _, _, _, _, .A h t, a, ha => by
    rcases List.mem_cons.mp ha with rfl | ha
    · rw [h]; exact fun z => nomatch z
    · exact RS.has t a ha
theorem RS.has : ∀ {m : List Md} {v : List V} {d : List D} {fp : List Addr}, RS K G H m v d fp → ∀ a ∈ fp, H a ≠ none
  | _, _, _, _, .nil, _, h => nomatch h
  | _, _, _, _, .cons h t, a, ha => (List.mem_append.mp ha).elim (R.has h a) (RS.has t a)
theorem RA.has : ∀ {m : Md} {v : List V} {d : List D} {fp : List Addr}, RA K G H m v d fp → ∀ a ∈ fp, H a ≠ none
  | _, _, _, _, .nil, _, h => nomatch h
  | _, _, _, _, .cons h t, a, ha => (List.mem_append.mp ha).elim (R.has h a) (RA.has t a)
theorem RK.has : ∀ {m : Md} {v : List (Key × V)} {d : List (Key × D)} {fp : List Addr}, RK K G H m v d fp → ∀ a ∈ fp, H a ≠ none
  | _, _, _, _, .nil, _, h => nomatch h
  | _, _, _, _, .cons h t, a, ha => (List.mem_append.mp ha).elim (R.has h a) (RK.has t a)
theorem RF.has : ∀ {m : List Md} {v : List (Str × V)} {d : List (Str × D)} {fp : List Addr}, RF K G H m v d fp → ∀ a ∈ fp, H a ≠ none
  | _, _, _, _, .nil, _, h => nomatch h
  | _, _, _, _, .cons h t, a, ha => (List.mem_append.mp ha).elim (R.has h a) (RF.has t a)
end
mutual
/-- what is held may be read as plain data of any heap that holds both -/
theorem R.dt (e : Ex G G') : ∀ {m : Md} {v : V} {d : D} {fp : List Addr}, R K G H m v d fp → (∀ a ∈ fp, ∀ o, H a = some o → G' a = some o) → Dt K G' v d
  | _, _, _, _, .F h, _ => h.mono e
  | _, _, _, _, .L h t, k => .lst (k _ List.mem_cons_self _ h) (RA.dt e t fun a ha => k a (List.mem_cons_of_mem _ ha))
  | _, _, _, _, .K h t, k => .dct (.inl (k _ List.mem_cons_self _ h)) (t.mono e)
  | _, _, _, _, .N h t, k => .ndc (k _ List.mem_cons_self _ h) (t.mono e)
  | _, _, _, _, .M h t, k => .dct (.inl (k _ List.mem_cons_self _ h)) (RK.dt e t fun a ha => k a (List.mem_cons_of_mem _ ha))
  | _, _, _, _, .O h n t, k => .obj (k _ List.mem_cons_self _ h) n (RF.dt e t fun a ha => k a (List.mem_cons_of_mem _ ha))
  | _, _, _, _, .P h, k => R.dt e h k
  | _, _, _, _, .T h t, k => .tup (.inl (.inl (e _ _ h))) (RS.dt e t k)
  | _, _, _, _, .A h t, k => .lst (k _ List.mem_cons_self _ h) (RS.dt e t fun a ha => k a (List.mem_cons_of_mem _ ha))
theorem RS.dt (e : Ex G G') : ∀ {m : List Md} {v : List V} {d : List D} {fp : List Addr}, RS K G H m v d fp → (∀ a ∈ fp, ∀ o, H a = some o → G' a = some o) → DtA K G' v d
  | _, _, _, _, .nil, _ => .nil
  | _, _, _, _, .cons h t, k => .cons (R.dt e h fun a ha => k a (List.mem_append_left _ ha)) (RS.dt e t fun a ha => k a (List.mem_append_right _ ha))
theorem RA.dt (e : Ex G G') : ∀ {m : Md} {v : List V} {d : List D} {fp : List Addr}, RA K G H m v d fp → (∀ a ∈ fp, ∀ o, H a = some o → G' a = some o) → DtA K G' v d
  | _, _, _, _, .nil, _ => .nil
  | _, _, _, _, .cons h t, k => .cons (R.dt e h fun a ha => k a (List.mem_append_left _ ha)) (RA.dt e t fun a ha => k a (List.mem_append_right _ ha))
theorem RK.dt (e : Ex G G') : ∀ {m : Md} {v : List (Key × V)} {d : List (Key × D)} {fp : List Addr}, RK K G H m v d fp → (∀ a ∈ fp, ∀ o, H a = some o → G' a = some o) → DtK K G' v d
  | _, _, _, _, .nil, _ => .nil
  | _, _, _, _, .cons h t, k => .cons (R.dt e h fun a ha => k a (List.mem_append_left _ ha)) (RK.dt e t fun a ha => k a (List.mem_append_right _ ha))
theorem RF.dt (e : Ex G G') : ∀ {m : List Md} {v : List (Str × V)} {d : List (Str × D)} {fp : List Addr}, RF K G H m v d fp → (∀ a ∈ fp, ∀ o, H a = some o → G' a = some o) → DtF K G' v d
  | _, _, _, _, .nil, _ => .nil
  | _, _, _, _, .cons h t, k => .cons (R.dt e h fun a ha => k a (List.mem_append_left _ ha)) (RF.dt e t fun a ha => k a (List.mem_append_right _ ha))
end
end

/-! ### the state -/
abbrev Rho := List (Option (Md × D))
abbrev Own := Nat → List Addr
def Ow (f : Own) (a : Addr) : Prop := ∃ i, a ∈ f i
def Own.set (f : Own) (i : Nat) (l : List Addr) : Own := fun j => if j = i then l else f j
theorem Own.set_same {f : Own} {i : Nat} {l : List Addr} : f.set i l i = l := if_pos rfl
theorem Own.set_ne {f : Own} {i j : Nat} {l : List Addr} (h : j ≠ i) : f.set i l j = f j := if_neg h
/-- the slots σ of the heap H are the data ρ, G the frozen part, f the owned addresses -/
structure Sx (K : PySem.W.Frag) (pin : Nat → Option V) (G H : Hp) (σ : L2.St) (ρ : Rho) (f : Own) : Prop where
  ext : Ex G H
  len : ρ.length = σ.length
  slot : ∀ i m d, ρ[i]? = some (some (m, d)) → ∃ v, σ[i]? = some (some v) ∧ R K G H m v d (f i)
  emp : ∀ i, (∀ m d, ρ[i]? ≠ some (some (m, d))) → f i = []
  nd : ∀ i, (f i).Nodup
  dj : ∀ i j a, a ∈ f i → a ∈ f j → i = j
  out : ∀ i, ∀ a ∈ f i, G a = none
  pins : ∀ i m d, ρ[i]? = some (some (.P m, d)) → ∃ v, pin i = some v ∧ σ[i]? = some (some v)
/-- from one state to a later one -/
structure Stp (G H : Hp) (f : Own) (G' H' : Hp) (f' : Own) : Prop where
  gext : Ex G G'
  keep : ∀ a o, H a = some o → ¬ Ow f a → H' a = some o
  gold : ∀ a, H a ≠ none → ¬ Ow f a → G' a = G a
  fnew : ∀ a, Ow f' a → Ow f a ∨ H a = none
  trk : ∀ a, H a ≠ none → H' a ≠ none
theorem Stp.refl (G H : Hp) (f : Own) : Stp G H f G H f := ⟨Ex.refl _, fun _ _ h _ => h, fun _ _ _ => rfl, fun _ h => .inl h, fun _ h => h⟩
theorem Stp.trans {G H G1 H1 G2 H2 : Hp} {f f1 f2 : Own} (a : Stp G H f G1 H1 f1) (b : Stp G1 H1 f1 G2 H2 f2) : Stp G H f G2 H2 f2 := by
  have n1 : ∀ x, H x ≠ none → ¬ Ow f x → ¬ Ow f1 x := fun x hx hf h1 => by
    rcases a.fnew x h1 with h | h
    · exact hf h
    · exact hx h
  refine ⟨a.gext.trans b.gext, fun x o h hf => ?_, fun x h hf => ?_, fun x h => ?_, fun x h => b.trk x (a.trk x h)⟩
  · exact b.keep x o (a.keep x o h hf) (n1 x (by rw [h]; exact fun z => nomatch z) hf)
  · cases e : H x with
    | none => exact absurd e h
    | some o =>
      have e1 := a.keep x o e hf
      rw [b.gold x (by rw [e1]; exact fun z => nomatch z) (n1 x h hf), a.gold x h hf]
  · rcases b.fnew x h with h1 | h1
    · exact a.fnew x h1
    · by_cases hf : Ow f x
      · exact .inl hf
      · refine .inr ?_
        cases e : H x with
        | none => rfl
        | some o => rw [a.keep x o e hf] at h1; cases h1
/-! ### paths within owned things -/
/-- the value reached by a path: items of lists, fields of instances -/
inductive Rch (H : Hp) : V → List Nat → V → Prop
  | here {v : V} : Rch H v [] v
  | lst {a : Addr} {xs : List V} {j : Nat} {x v : V} {p : List Nat} : H a = some (.lst xs) → xs[j]? = some x → Rch H x p v → Rch H (.ref a) (j :: p) v
  | ins {a C dx : Addr} {fs : List (Str × V)} {j : Nat} {k : Str} {x v : V} {p : List Nat} : H a = some (.ins C dx fs) → fs[j]? = some (k, x) → Rch H x p v → Rch H (.ref a) (j :: p) v
  | tup {a : Addr} {xs : List V} {j : Nat} {x v : V} {p : List Nat} : H a = some (.tup xs) → xs[j]? = some x → Rch H x p v → Rch H (.ref a) (j :: p) v
  | dK {a : Addr} {kvs : List (Key × V)} {j : Nat} {k : Key} {x v : V} {p : List Nat} : H a = some (.dK kvs) → kvs[j]? = some (k, x) → Rch H x p v → Rch H (.ref a) (j :: p) v
def mKid : Md → Nat → Option Md
  | .L m, _ => some m
  | .M m, _ => some m
  | .O ms, j => ms[j]?
  | .T ms, j => ms[j]?
  | .A ms, j => ms[j]?
  | _, _ => none
def Md.st : Md → Md
  | .P m => m.st
  | m => m
def mAt : Md → List Nat → Option Md
  | m, [] => some m
  | m, j :: p => match mKid m j with
    | some m' => mAt m' p
    | none => none
def dKid : D → Nat → Option D
  | .lst ds, j => ds[j]?
  | .tup ds, j => ds[j]?
  | .obj _ fs, j => match fs[j]? with
    | some x => some x.2
    | none => none
  | .dct fs, j => match fs[j]? with
    | some x => some x.2
    | none => none
  | _, _ => none
def dAt : D → List Nat → Option D
  | d, [] => some d
  | d, j :: p => match dKid d j with
    | some d' => dAt d' p
    | none => none
def setKid : D → Nat → D → D
  | .lst ds, j, x => .lst (ds.set j x)
  | .tup ds, j, x => .tup (ds.set j x)
  | .obj C fs, j, x => .obj C (fs.modify j fun y => (y.1, x))
  | .dct fs, j, x => .dct (fs.modify j fun y => (y.1, x))
  | d, _, _ => d
def dSet : D → List Nat → D → D
  | _, [], x => x
  | d, j :: p, x => match dKid d j with
    | some d' => setKid d j (dSet d' p x)
    | none => d
/-- what an expression's value is: fz: frozen; bor i p m: what slot i holds at p; new m: nobody else's -/
inductive Kd where
  | fz | bor (i : Nat) (p : List Nat) (m : Md) | new (m : Md)
/-- a state -/
structure Sta where
  pin : Nat → Option V
  G : Hp
  H : Hp
  σ : L2.St
  ρ : Rho
  f : Own
abbrev Sta.ok (K : PySem.W.Frag) (S : Sta) : Prop := Sx K S.pin S.G S.H S.σ S.ρ S.f
structure Sta.to (S T : Sta) : Prop where
  stp : Stp S.G S.H S.f T.G T.H T.f
  pin : T.pin = S.pin
/-- new since S0, or owned there -/
def Nw (S0 : Sta) (a : Addr) : Prop := Ow S0.f a ∨ S0.H a = none
def Has (K : PySem.W.Frag) (S0 S : Sta) : Kd → V → D → Prop
  | .fz, v, d => Dt K S.G v d
  | .bor i p m, v, d => ∃ m0 d0 v0, S.ρ[i]? = some (some (m0, d0)) ∧ S.σ[i]? = some (some v0) ∧ Rch S.H v0 p v ∧ mAt m0.st p = some m ∧ dAt d0 p = some d
  | .new m, v, d => ∃ fp, R K S.G S.H m v d fp ∧ fp.Nodup ∧ ∀ a ∈ fp, S.G a = none ∧ ¬ Ow S.f a ∧ Nw S0 a
inductive HasA (K : PySem.W.Frag) (S0 S : Sta) : List V → List (Kd × D) → Prop
  | nil : HasA K S0 S [] []
  | cons {v : V} {kd : Kd} {d : D} {vs : List V} {ds : List (Kd × D)} : Has K S0 S kd v d → HasA K S0 S vs ds → HasA K S0 S (v :: vs) ((kd, d) :: ds)
/-- what is wanted behind -/
structure Po (α : Type) where
  ok : List Nat → α → Rho → Prop
  ex : Addr → List (Str × D) → Rho → Prop
/-- an exception's dict -/
def XD (K : PySem.W.Frag) (G H : Hp) (dd : Option Addr) (fl : List (Str × D)) : Prop :=
  (fl = [] ∧ dd = none) ∨ ∃ a fs, fl ≠ [] ∧ dd = some a ∧ H a = some (.xd fs) ∧ DtF K G fs fl
abbrev DE (α : Type) := Rho → Po α → Prop
abbrev Rl (τ α : Type) := PySem.W.Frag → Sta → Sta → τ → α → Prop
/-- the slots but those at p are as they were -/
def Tch (p : List Nat) (S T : Sta) : Prop := ∀ i, i ∉ p → T.ρ[i]? = S.ρ[i]? ∧ T.f i = S.f i ∧ ∀ a ∈ S.f i, ∀ o, S.H a = some o → T.H a = some o
/-- a reading by data -/
def tgen {τ α : Type} (L : Rl τ α) (K : PySem.W.Frag) (W : WX) (w : DE α) : L2.St → Hp → (τ → Hp → Prop) → Prop := fun σ H Q =>
  ∃ (S : Sta) (P : Po α), S.σ = σ ∧ S.H = H ∧ S.ok K ∧ w S.ρ P ∧
    (∀ p x (T : Sta), P.ok p x T.ρ → T.σ = σ → T.ok K → S.to T → Tch p S T → ∀ v : τ, L K S T v x → Q v T.H) ∧
    (∀ C fl (T : Sta), P.ex C fl T.ρ → T.σ = σ → T.ok K → S.to T → ∀ dd : Option Addr, XD K T.G T.H dd fl → W (.ref C) dd σ T.H)
abbrev lE : Rl V (Kd × D) := fun K S0 S v x => Has K S0 S x.1 v x.2
abbrev lT : Rl Bool Bool := fun _ _ _ b c => b = c
abbrev lA : Rl (List V) (List (Kd × D)) := fun K S0 S vs xs => HasA K S0 S vs xs
abbrev lO : Rl (Option Int) (Option Int) := fun _ _ _ b c => b = c
abbrev te : PySem.W.Frag → WX → DE (Kd × D) → TE := tgen lE
abbrev tt : PySem.W.Frag → WX → DE Bool → TT := tgen lT
abbrev ta : PySem.W.Frag → WX → DE (List (Kd × D)) → TA := tgen lA
abbrev tO : PySem.W.Frag → WX → DE (Option Int) → TO := tgen lO
/-- what is wanted behind a statement -/
structure En where
  nx : Rho → Prop
  rt : Kd × D → Rho → Prop
  bk : Rho → Prop
  ct : Rho → Prop
  ex : Addr → List (Str × D) → Rho → Prop
abbrev DS := En → Rho → Prop
/-- the wishes E lead to the ends D -/
structure Lead (K : PySem.W.Frag) (W : WX) (S : Sta) (E : En) (D : Ends) : Prop where
  nx : ∀ T : Sta, E.nx T.ρ → T.ok K → S.to T → D.nx T.σ T.H
  bk : ∀ T : Sta, E.bk T.ρ → T.ok K → S.to T → D.bk T.σ T.H
  ct : ∀ T : Sta, E.ct T.ρ → T.ok K → S.to T → D.ct T.σ T.H
  rt : ∀ x (T : Sta), E.rt x T.ρ → T.ok K → S.to T → ∀ v : V, Has K S T x.1 v x.2 → D.rt v T.H
  ex : ∀ C fl (T : Sta), E.ex C fl T.ρ → T.ok K → S.to T → ∀ dd : Option Addr, XD K T.G T.H dd fl → W (.ref C) dd T.σ T.H
def ts (K : PySem.W.Frag) (W : WX) (w : DS) : TS := fun D σ H =>
  ∃ (S : Sta) (E : En), S.σ = σ ∧ S.H = H ∧ S.ok K ∧ w E S.ρ ∧ Lead K W S E D
end VL

namespace VL
open PySem PySem.Spec PyProof.Rows L2
section
variable {K : PySem.W.Frag} {W : WX} {G G' H H' H0 : Hp} {σ : L2.St} {ρ : Rho} {f f' : Own} {P : Program} {w : World} {X : Cx} {S S0 S1 T T1 T2 : Sta}

theorem PE.imp {e : Expr} {t t' : TE} (h : PE X e t) (k : ∀ σ H Q, t' σ H Q → t σ H Q) : PE X e t' := ⟨fun pins s σ H Q I q => h.run pins s σ H Q I (k σ H Q q)⟩
theorem PT.imp {e : Expr} {t t' : TT} (h : PT X e t) (k : ∀ σ H Q, t' σ H Q → t σ H Q) : PT X e t' := ⟨fun pins s σ H Q I q => h.run pins s σ H Q I (k σ H Q q)⟩
theorem PW.imp {e : Expr} {t t' : TT} (h : PW X e t) (k : ∀ σ H Q, t' σ H Q → t σ H Q) : PW X e t' := ⟨fun wh pins s σ H Q I q => h.run wh pins s σ H Q I (k σ H Q q)⟩
theorem PA.imp {e : List Expr} {t t' : TA} (h : PA X e t) (k : ∀ σ H Q, t' σ H Q → t σ H Q) : PA X e t' := ⟨fun pos pins s σ H Q I q => h.run pos pins s σ H Q I (k σ H Q q)⟩
theorem PS.imp {e : Stmt} {t t' : TS} (h : PS X e t) (k : ∀ D σ H, t' D σ H → t D σ H) : PS X e t' := ⟨fun pins s σ H D I q => h.run pins s σ H D I (k D σ H q)⟩
theorem PSs.imp {e : List Stmt} {t t' : TS} (h : PSs X e t) (k : ∀ D σ H, t' D σ H → t D σ H) : PSs X e t' := ⟨fun pins s σ H D I q => h.run pins s σ H D I (k D σ H q)⟩
theorem PO.imp {e : Option Expr} {t t' : TO} (h : PO X e t) (k : ∀ σ H Q, t' σ H Q → t σ H Q) : PO X e t' := ⟨fun pins s σ H Q I q => h.run pins s σ H Q I (k σ H Q q)⟩

theorem Sta.refl (S : Sta) : S.to S := ⟨Stp.refl _ _ _, rfl⟩
theorem Sta.to.trans (a : S.to S1) (b : S1.to T) : S.to T := ⟨a.stp.trans b.stp, b.pin.trans a.pin⟩
theorem Tch.refl (S : Sta) (p : List Nat) : Tch p S S := fun _ _ => ⟨rfl, rfl, fun _ _ _ h => h⟩
theorem Tch.trans {p q : List Nat} (a : Tch p S S1) (b : Tch q S1 T) : Tch (p ++ q) S T := fun i hi => by
  obtain ⟨a1, a2, a3⟩ := a i fun h => hi (List.mem_append_left _ h)
  obtain ⟨b1, b2, b3⟩ := b i fun h => hi (List.mem_append_right _ h)
  exact ⟨b1.trans a1, b2.trans a2, fun x hx o ho => b3 x (by rw [a2]; exact hx) o (a3 x hx o ho)⟩
theorem Tch.add {p : List Nat} (a : Tch p S S1) (b : Tch [] S1 T) : Tch p S T := by
  have h := a.trans b
  rw [List.append_nil] at h
  exact h
/-- the heap grows by new things alone -/
structure Grow (G H G' H' : Hp) : Prop where
  gext : Ex G G'
  hext : Ex H H'
  sub : Ex G' H'
  gold : ∀ a, H a ≠ none → G' a = G a
theorem Grow.refl (e : Ex G H) : Grow G H G H := ⟨Ex.refl _, Ex.refl _, e, fun _ _ => rfl⟩
theorem Grow.trans {G1 H1 G2 H2 : Hp} (a : Grow G H G1 H1) (b : Grow G1 H1 G2 H2) : Grow G H G2 H2 := ⟨a.gext.trans b.gext, a.hext.trans b.hext, b.sub, fun x h => by
  cases e : H x with
  | none => exact absurd e h
  | some o => rw [b.gold x (by rw [a.hext x o e]; exact fun z => nomatch z), a.gold x h]⟩
theorem Ex.trk (e : Ex H H') {a : Addr} (h : H a ≠ none) : H' a ≠ none := by
  cases q : H a with
  | none => exact absurd q h
  | some o => rw [e a o q]; exact fun z => nomatch z
/-- a new thing that nobody changes -/
theorem Grow.new {p : Addr} {o : HO} (e : Ex G H) (h : H p = none) : Grow G H (upd G p o) (upd H p o) where
  gext := Ex.new (e.free h)
  hext := Ex.new h
  sub := fun a u q => by
    by_cases c : a = p
    · subst c; rw [upd_same] at q ⊢; exact q
    · rw [upd_ne c] at q ⊢; exact e a u q
  gold := fun a q => upd_ne fun c => q (c ▸ h)
/-- a new thing of one's own -/
theorem Grow.own {p : Addr} {o : HO} (e : Ex G H) (h : H p = none) : Grow G H G (upd H p o) := ⟨Ex.refl _, Ex.new h, e.trans (Ex.new h), fun _ _ => rfl⟩
variable {pin : Nat → Option V}
theorem Sx.own (S : Sx K pin G H σ ρ f) {a : Addr} (h : Ow f a) : H a ≠ none := by
  obtain ⟨i, hi⟩ := h
  cases e : ρ[i]? with
  | none => rw [S.emp i (by rw [e]; exact fun _ _ z => nomatch z)] at hi; cases hi
  | some x =>
    cases x with
    | none => rw [S.emp i (by rw [e]; exact fun _ _ z => nomatch z)] at hi; cases hi
    | some md =>
      obtain ⟨v, _, r⟩ := S.slot i md.1 md.2 e
      exact r.has a hi
theorem Sx.outO (S : Sx K pin G H σ ρ f) {a : Addr} (h : Ow f a) : G a = none := by
  obtain ⟨i, hi⟩ := h
  exact S.out i a hi
/-- the state over other heaps -/
def Sta.at (S : Sta) (G H : Hp) : Sta := { S with G := G, H := H }
theorem Sx.grow (S : Sx K pin G H σ ρ f) (g : Grow G H G' H') : Sx K pin G' H' σ ρ f where
  pins := S.pins
  ext := g.sub
  len := S.len
  slot := fun i m d e => by
    obtain ⟨v, h1, r⟩ := S.slot i m d e
    exact ⟨v, h1, r.keep g.gext fun a _ o h => g.hext a o h⟩
  emp := S.emp
  nd := S.nd
  dj := S.dj
  out := fun i a h => by
    rw [g.gold a (S.own ⟨i, h⟩)]
    exact S.out i a h
theorem Grow.stp (g : Grow G H G' H') : Stp G H f G' H' f := ⟨g.gext, fun a o h _ => g.hext a o h, fun a h _ => g.gold a h, fun _ h => .inl h, fun _ h => g.hext.trk h⟩
theorem Grow.to (g : Grow S.G S.H G' H') : S.to (S.at G' H') := ⟨g.stp, rfl⟩
theorem Grow.tch (g : Grow S.G S.H G' H') : Tch [] S (S.at G' H') := fun _ _ => ⟨rfl, rfl, fun a _ o h => g.hext a o h⟩
theorem Sta.grow (ok : S.ok K) (g : Grow S.G S.H G' H') : (S.at G' H').ok K := Sx.grow ok g
theorem Rch.mono (e : Ex H H') : ∀ {v : V} {p : List Nat} {v' : V}, Rch H v p v' → Rch H' v p v'
  | _, _, _, .here => .here
  | _, _, _, .lst h i t => .lst (e _ _ h) i (Rch.mono e t)
  | _, _, _, .ins h i t => .ins (e _ _ h) i (Rch.mono e t)
  | _, _, _, .tup h i t => .tup (e _ _ h) i (Rch.mono e t)
  | _, _, _, .dK h i t => .dK (e _ _ h) i (Rch.mono e t)

/-- a value keeps its kind through a later step -/
def hold : Kd → List Nat → Bool
  | .bor i _ _, p => !p.contains i
  | _, _ => true
theorem RA.get {m : Md} : ∀ {xs : List V} {ds : List D} {fp : List Addr} {j : Nat} {x : V} {d : D}, RA K G H m xs ds fp → xs[j]? = some x → ds[j]? = some d → ∃ fq, R K G H m x d fq ∧ ∀ a ∈ fq, a ∈ fp
  | _, _, _, _, _, _, .nil, h, _ => by simp at h
  | _, _, _, 0, _, _, .cons r t, h, h' => by
    simp at h h'; subst h; subst h'
    exact ⟨_, r, fun a ha => List.mem_append_left _ ha⟩
  | _, _, _, j + 1, _, _, .cons r t, h, h' => by
    obtain ⟨fq, r', k⟩ := RA.get t (j := j) (by simpa using h) (by simpa using h')
    exact ⟨fq, r', fun a ha => List.mem_append_right _ (k a ha)⟩
theorem RS.get : ∀ {ms : List Md} {xs : List V} {ds : List D} {fp : List Addr} {j : Nat} {m : Md} {x : V} {d : D}, RS K G H ms xs ds fp → ms[j]? = some m → xs[j]? = some x → ds[j]? = some d → ∃ fq, R K G H m x d fq ∧ ∀ a ∈ fq, a ∈ fp
  | _, _, _, _, _, _, _, _, .nil, h, _, _ => by simp at h
  | _, _, _, _, 0, _, _, _, .cons r t, h0, h, h' => by
    simp at h0 h h'
    subst h0; subst h; subst h'
    exact ⟨_, r, fun a ha => List.mem_append_left _ ha⟩
  | _, _, _, _, j + 1, _, _, _, .cons r t, h0, h, h' => by
    obtain ⟨fq, r', k⟩ := RS.get t (j := j) (by simpa using h0) (by simpa using h) (by simpa using h')
    exact ⟨fq, r', fun a ha => List.mem_append_right _ (k a ha)⟩
theorem RK.get {m : Md} : ∀ {xs : List (Key × V)} {ds : List (Key × D)} {fp : List Addr} {j : Nat} {k k' : Key} {x : V} {d : D}, RK K G H m xs ds fp → xs[j]? = some (k, x) → ds[j]? = some (k', d) → k = k' ∧ ∃ fq, R K G H m x d fq ∧ ∀ a ∈ fq, a ∈ fp
  | _, _, _, _, _, _, _, _, .nil, h, _ => by simp at h
  | _, _, _, 0, _, _, _, _, .cons r t, h, h' => by
    simp at h h'
    obtain ⟨rfl, rfl⟩ := h
    obtain ⟨rfl, rfl⟩ := h'
    exact ⟨rfl, _, r, fun a ha => List.mem_append_left _ ha⟩
  | _, _, _, j + 1, _, _, _, _, .cons r t, h, h' => by
    obtain ⟨e, fq, r', k⟩ := RK.get t (j := j) (by simpa using h) (by simpa using h')
    exact ⟨e, fq, r', fun a ha => List.mem_append_right _ (k a ha)⟩
theorem RF.get : ∀ {ms : List Md} {xs : List (Str × V)} {ds : List (Str × D)} {fp : List Addr} {j : Nat} {m : Md} {k k' : Str} {x : V} {d : D}, RF K G H ms xs ds fp → ms[j]? = some m → xs[j]? = some (k, x) → ds[j]? = some (k', d) → k = k' ∧ ∃ fq, R K G H m x d fq ∧ ∀ a ∈ fq, a ∈ fp
  | _, _, _, _, _, _, _, _, _, _, .nil, h, _, _ => by simp at h
  | _, _, _, _, 0, _, _, _, _, _, .cons r t, h0, h, h' => by
    simp at h0 h h'
    obtain ⟨rfl, rfl⟩ := h
    obtain ⟨rfl, rfl⟩ := h'
    subst h0
    exact ⟨rfl, _, r, fun a ha => List.mem_append_left _ ha⟩
  | _, _, _, _, j + 1, _, _, _, _, _, .cons r t, h0, h, h' => by
    obtain ⟨e, fq, r', k⟩ := RF.get t (j := j) (by simpa using h0) (by simpa using h) (by simpa using h')
    exact ⟨e, fq, r', fun a ha => List.mem_append_right _ (k a ha)⟩
theorem R.strip : ∀ {m : Md} {v : V} {d : D} {fp : List Addr}, R K G H m v d fp → R K G H m.st v d fp
  | .F, _, _, _, h => h
  | .L _, _, _, _, h => h
  | .K, _, _, _, h => h
  | .N, _, _, _, h => h
  | .M _, _, _, _, h => h
  | .O _, _, _, _, h => h
  | .T _, _, _, _, h => h
  | .A _, _, _, _, h => h
  | .P m, _, _, _, h => by
    cases h with
    | P h => exact R.strip (m := m) h
/-- what a path leads to is held so, and stays where the slot's things stay -/
theorem R.reach : ∀ (xt : Ex G H) {p : List Nat} {m0 m : Md} {v0 v : V} {d0 d : D} {fp : List Addr}, R K G H m0 v0 d0 fp → Rch H v0 p v → mAt m0 p = some m → dAt d0 p = some d →
    (∃ fq, R K G H m v d fq ∧ ∀ a ∈ fq, a ∈ fp) ∧ ∀ H' : Hp, (∀ a ∈ fp, ∀ o, H a = some o → H' a = some o) → Ex G H' → Rch H' v0 p v
  | xt, [], _, _, _, _, _, _, _, r, c, e1, e2 => by
    cases c
    cases e1; cases e2
    exact ⟨⟨_, r, fun _ h => h⟩, fun _ _ _ => .here⟩
  | xt, j :: p, m0, m, v0, v, d0, d, fp, r, c, e1, e2 => by
    cases c with
    | lst h i t =>
      cases r with
      | F h => simp [mAt, mKid] at e1
      | P h => simp [mAt, mKid] at e1
      | K h t => rename_i h' _ _ _; rw [h] at h'; cases h'
      | N h' t' => rw [h] at h'; cases h'
      | M h' t' => rw [h] at h'; cases h'
      | O h' n' t' => rw [h] at h'; cases h'
      | T h' t' => have h' := xt _ _ h'; rw [h] at h'; cases h'
      | A h' t' =>
        rw [h] at h'; cases h'
        simp only [mAt, mKid] at e1
        simp only [dAt, dKid] at e2
        split at e1
        · rename_i m1 em
          split at e2
          · rename_i d1 ed
            obtain ⟨fq, r1, k1⟩ := RS.get t' em i ed
            obtain ⟨⟨fr, r2, k2⟩, k3⟩ := R.reach xt r1 t e1 e2
            exact ⟨⟨fr, r2, fun a ha => List.mem_cons_of_mem _ (k1 a (k2 a ha))⟩, fun H' k x => .lst (k _ List.mem_cons_self _ h) i (k3 H' (fun a ha => k a (List.mem_cons_of_mem _ (k1 a ha))) x)⟩
          · cases e2
        · cases e1
      | L h' t' =>
        rw [h] at h'; cases h'
        simp only [mAt, mKid] at e1
        simp only [dAt, dKid] at e2
        split at e2
        · rename_i d1 ed
          obtain ⟨fq, r1, k1⟩ := RA.get t' i ed
          obtain ⟨⟨fr, r2, k2⟩, k3⟩ := R.reach xt r1 t e1 e2
          exact ⟨⟨fr, r2, fun a ha => List.mem_cons_of_mem _ (k1 a (k2 a ha))⟩, fun H' k x => .lst (k _ List.mem_cons_self _ h) i (k3 H' (fun a ha => k a (List.mem_cons_of_mem _ (k1 a ha))) x)⟩
        · cases e2
    | ins h i t =>
      cases r with
      | F h => simp [mAt, mKid] at e1
      | P h => simp [mAt, mKid] at e1
      | K h t => rename_i h' _ _ _; rw [h] at h'; cases h'
      | N h' t' => rw [h] at h'; cases h'
      | M h' t' => rw [h] at h'; cases h'
      | L h' t' => rw [h] at h'; cases h'
      | T h' t' => have h' := xt _ _ h'; rw [h] at h'; cases h'
      | A h' t' => rw [h] at h'; cases h'
      | O h' n' t' =>
        rw [h] at h'; cases h'
        simp only [mAt, mKid] at e1
        simp only [dAt, dKid] at e2
        split at e1
        · rename_i m1 em
          split at e2
          · rename_i d1 ed
            split at ed
            · rename_i y ey
              cases ed
              obtain ⟨_, fq, r1, k1⟩ := RF.get t' em i ey
              obtain ⟨⟨fr, r2, k2⟩, k3⟩ := R.reach xt r1 t e1 e2
              exact ⟨⟨fr, r2, fun a ha => List.mem_cons_of_mem _ (k1 a (k2 a ha))⟩, fun H' k x => .ins (k _ List.mem_cons_self _ h) i (k3 H' (fun a ha => k a (List.mem_cons_of_mem _ (k1 a ha))) x)⟩
            · cases ed
          · cases e2
        · cases e1
    | dK h i t =>
      cases r with
      | F h => simp [mAt, mKid] at e1
      | P h => simp [mAt, mKid] at e1
      | K h t => simp [mAt, mKid] at e1
      | N h t => simp [mAt, mKid] at e1
      | L h' t' => rw [h] at h'; cases h'
      | O h' n' t' => rw [h] at h'; cases h'
      | T h' t' => have h' := xt _ _ h'; rw [h] at h'; cases h'
      | A h' t' => rw [h] at h'; cases h'
      | M h' t' =>
        rw [h] at h'; cases h'
        simp only [mAt, mKid] at e1
        simp only [dAt, dKid] at e2
        split at e2
        · rename_i d1 ed
          split at ed
          · rename_i y ey
            cases ed
            obtain ⟨_, fq, r1, k1⟩ := RK.get t' i ey
            obtain ⟨⟨fr, r2, k2⟩, k3⟩ := R.reach xt r1 t e1 e2
            exact ⟨⟨fr, r2, fun a ha => List.mem_cons_of_mem _ (k1 a (k2 a ha))⟩, fun H' k x => .dK (k _ List.mem_cons_self _ h) i (k3 H' (fun a ha => k a (List.mem_cons_of_mem _ (k1 a ha))) x)⟩
          · cases ed
        · cases e2
    | tup h i t =>
      cases r with
      | F h => simp [mAt, mKid] at e1
      | P h => simp [mAt, mKid] at e1
      | K h t => rename_i h' _ _ _; rw [h] at h'; cases h'
      | N h' t' => rw [h] at h'; cases h'
      | M h' t' => rw [h] at h'; cases h'
      | L h' t' => rw [h] at h'; cases h'
      | O h' n' t' => rw [h] at h'; cases h'
      | A h' t' => rw [h] at h'; cases h'
      | T h' t' =>
        have hx := xt _ _ h'
        rw [h] at hx; cases hx
        simp only [mAt, mKid] at e1
        simp only [dAt, dKid] at e2
        split at e1
        · rename_i m1 em
          split at e2
          · rename_i d1 ed
            obtain ⟨fq, r1, k1⟩ := RS.get t' em i ed
            obtain ⟨⟨fr, r2, k2⟩, k3⟩ := R.reach xt r1 t e1 e2
            exact ⟨⟨fr, r2, fun a ha => k1 a (k2 a ha)⟩, fun H' k x => .tup (x _ _ h') i (k3 H' (fun a ha => k a (k1 a ha)) x)⟩
          · cases e2
        · cases e1
theorem Has.stp {kd : Kd} {v : V} {d : D} {p : List Nat} (h : Has K S0 S kd v d) (ok : S.ok K) (s : S.to T) (hs : T.σ = S.σ) (pr : Tch p S T) (hh : hold kd p = true) : Has K S0 T kd v d := by
  cases kd with
  | fz => exact Dt.mono s.stp.gext h
  | bor i q m =>
    obtain ⟨m0, d0, v0, h1, h2, h3, h4, h5⟩ := h
    have hi : i ∉ p := by simpa [hold] using hh
    obtain ⟨e1, e2, e3⟩ := pr i hi
    obtain ⟨v1, g1, r⟩ := ok.slot i m0 d0 h1
    rw [h2] at g1; cases g1
    exact ⟨m0, d0, v0, by rw [e1]; exact h1, by rw [hs]; exact h2, (r.strip.reach ok.ext h3 h4 h5).2 T.H e3 (fun a o ho => s.stp.keep a o (ok.ext a o ho) fun ⟨j, hj⟩ => by rw [ok.out j a hj] at ho; cases ho), h4, h5⟩
  | new m =>
    obtain ⟨fp, r, n, k⟩ := h
    refine ⟨fp, r.keep s.stp.gext fun a ha o q => s.stp.keep a o q (k a ha).2.1, n, fun a ha => ⟨?_, fun z => ?_, (k a ha).2.2⟩⟩
    · rw [s.stp.gold a (r.has a ha) (k a ha).2.1]; exact (k a ha).1
    · rcases s.stp.fnew a z with z | z
      · exact (k a ha).2.1 z
      · exact r.has a ha z
theorem Nw.of (s : S.to T) {a : Addr} (h : Nw T a) : Nw S a := by
  rcases h with h | h
  · exact s.stp.fnew a h
  · refine .inr ?_
    cases e : S.H a with
    | none => rfl
    | some o => exact absurd h (s.stp.trk a (by rw [e]; exact fun z => nomatch z))
/-- seen from an earlier start -/
theorem Has.from {kd : Kd} {v : V} {d : D} (h : Has K S0 T kd v d) (s : S.to S0) : Has K S T kd v d := by
  cases kd with
  | fz => exact h
  | bor i q m => exact h
  | new m =>
    obtain ⟨fp, r, n, k⟩ := h
    exact ⟨fp, r, n, fun a ha => ⟨(k a ha).1, (k a ha).2.1, (k a ha).2.2.of s⟩⟩
/-- a borrowed value is held within its slot -/
theorem Has.bor_R (ok : S.ok K) {i : Nat} {p : List Nat} {m : Md} {v : V} {d : D} (h : Has K S0 S (.bor i p m) v d) : ∃ fq, R K S.G S.H m v d fq ∧ ∀ a ∈ fq, a ∈ S.f i := by
  obtain ⟨m0, d0, v0, h1, h2, h3, h4, h5⟩ := h
  obtain ⟨v1, e1, r⟩ := ok.slot i m0 d0 h1
  rw [h2] at e1; cases e1
  exact (r.strip.reach ok.ext h3 h4 h5).1
/-- what is seen of a value in the whole heap -/
theorem Has.dt (ok : S.ok K) {kd : Kd} {v : V} {d : D} (h : Has K S0 S kd v d) : Dt K S.H v d := by
  cases kd with
  | fz => exact Dt.mono ok.ext h
  | bor i p m => obtain ⟨fp, r, _⟩ := h.bor_R ok; exact r.dt ok.ext fun a _ o q => q
  | new m => obtain ⟨fp, r, _⟩ := h; exact r.dt ok.ext fun a _ o q => q
theorem R.F_inv {v : V} {d : D} {fp : List Addr} (h : R K G H .F v d fp) : Dt K G v d ∧ fp = [] := by cases h with | F h => exact ⟨h, rfl⟩

/-! ### names, constants -/
def kAt (i : Nat) (p : List Nat) : Md → Kd
  | .F => .fz
  | m => .bor i p m
def wVar (i : Nat) : DE (Kd × D) := fun ρ P => match ρ[i]? with
  | some (some (m, d)) => P.ok [] (kAt i [] m.st, d) ρ
  | _ => False
/-- of a thing that a path leads to -/
theorem Has.of_at (ok : S.ok K) {i : Nat} {p : List Nat} {m0 m : Md} {d0 d : D} {v0 v : V} (h1 : S.ρ[i]? = some (some (m0, d0))) (h2 : S.σ[i]? = some (some v0)) (h3 : Rch S.H v0 p v) (h4 : mAt m0.st p = some m) (h5 : dAt d0 p = some d) : Has K S0 S (kAt i p m) v d := by
  have h : Has K S0 S (.bor i p m) v d := ⟨m0, d0, v0, h1, h2, h3, h4, h5⟩
  cases m with
  | F => obtain ⟨fq, r, _⟩ := h.bor_R ok; exact r.F_inv.1
  | L m => exact h
  | K => exact h
  | N => exact h
  | M m => exact h
  | O ms => exact h
  | P m => exact h
  | T ms => exact h
  | A ms => exact h
theorem te_var {i : Nat} {Q : VK} (h : te K W (wVar i) σ H Q) : tVar i σ H Q := by
  obtain ⟨S, P, rfl, rfl, ok, w, k, _⟩ := h
  unfold wVar at w
  split at w
  · rename_i m d e
    obtain ⟨v, hv, r⟩ := ok.slot i _ _ e
    exact ⟨v, hv, k _ _ S w rfl ok (Sta.refl S) (Tch.refl S _) v (Has.of_at ok e hv .here rfl rfl)⟩
  · exact w.elim
theorem q_var (i : Nat) {x : Str} {pos : Pos} (hN : X.N[i]? = some x := by rfl) (hv : Vis X.env.scope x := by first | exact Or.inl rfl | exact Or.inr (Or.inl rfl) | exact Or.inr (Or.inr rfl)) (hd : (x == ("__debug__" : Str)) = false := by decide)
    (hcd : (x == ("__classdict__" : Str)) = false := by decide) : PE X (.Name x pos) (te X.K W (wVar i)) := PE.imp (pv i hN hv hd hcd) fun _ _ _ h => te_var h
/-- a thing that is plain data everywhere -/
def wC (d : D) : DE (Kd × D) := fun ρ P => P.ok [] (.fz, d) ρ
theorem te_c {v : V} {d : D} {Q : VK} (hd : ∀ G, Dt K G v d) (h : te K W (wC d) σ H Q) : tC v σ H Q := by
  obtain ⟨S, P, rfl, rfl, ok, w, k, _⟩ := h
  exact k _ _ S w rfl ok (Sta.refl S) (Tch.refl S _) v (hd S.G)
theorem q_int {i j pos} : PE X (.Constant (.int i) j pos) (te X.K W (wC (.int i))) := PE.imp pe_int fun _ _ _ h => te_c (fun _ => .int i) h
theorem q_bl {b j pos} : PE X (.Constant (.bool b) j pos) (te X.K W (wC (.bl b))) := PE.imp pe_bl fun _ _ _ h => te_c (fun _ => .bl b) h
theorem q_non {j pos} : PE X (.Constant .none j pos) (te X.K W (wC .non)) := PE.imp pe_non fun _ _ _ h => te_c (fun _ => .non) h
theorem q_str {x j pos} : PE X (.Constant (.str x) j pos) (te X.K W (wC (.str x))) := PE.imp pe_str fun _ _ _ h => te_c (fun _ => .str x) h

/-! ### operations by values -/
abbrev O2 := Kd × D → Kd × D → (Kd × D → Prop) → Prop
/-- an operation that makes new things alone -/
def OkR2 (K : PySem.W.Frag) (r : R2) (o : O2) : Prop := ∀ (S0 S : Sta) (x y : V) (dx dy : Kd × D) (Q : VK) (q : Kd × D → Prop), S.ok K →
  Has K S0 S dx.1 x dx.2 → Has K S0 S dy.1 y dy.2 → o dx dy q → (∀ z, q z → ∀ (v : V) (G' H' : Hp), Grow S.G S.H G' H' → Has K S (S.at G' H') z.1 v z.2 → Q v H') → r x y S.H Q
def wOp (o : O2) (wa wb : DE (Kd × D)) : DE (Kd × D) := fun ρ P => wa ρ ⟨fun p1 x ρ1 => wb ρ1 ⟨fun p2 y ρ2 => hold x.1 p2 = true ∧ o x y fun z => P.ok (p1 ++ p2) z ρ2, P.ex⟩, P.ex⟩
theorem te_op {r : R2} {o : O2} {wa wb : DE (Kd × D)} {Q : VK} (hr : OkR2 K r o) (h : te K W (wOp o wa wb) σ H Q) : tOp r (te K W wa) (te K W wb) σ H Q := by
  obtain ⟨S, P, rfl, rfl, ok, w, k, ex⟩ := h
  refine ⟨S, _, rfl, rfl, ok, w, fun p1 x S1 w1 e1 ok1 t1 pr1 v1 h1 => ?_, ex⟩
  refine ⟨S1, _, e1, rfl, ok1, w1, fun p2 y S2 w2 e2 ok2 t2 pr2 v2 h2 => ?_, fun C fl T e es okT tT dd hd => ex C fl T e es okT (t1.trans tT) dd hd⟩
  obtain ⟨hh, w2⟩ := w2
  refine hr S S2 v1 v2 x y Q _ ok2 (h1.stp ok1 t2 (e2.trans e1.symm) pr2 hh) (h2.from t1) w2 fun z qz v G' H' g hz => ?_
  exact k _ _ (S2.at G' H') qz e2 (Sta.grow ok2 g) ((t1.trans t2).trans g.to) ((pr1.trans pr2).add g.tch) v (hz.from (t1.trans t2))
theorem q_op {op : Operator} {r : R2} {o : O2} {a b : Expr} {wa wb : DE (Kd × D)} {pos : Pos} (ho : OpR X (binaryOp op) r) (hr : OkR2 X.K r o) (ha : PE X a (te X.K W wa)) (hb : PE X b (te X.K W wb)) : PE X (.BinOp a op b pos) (te X.K W (wOp o wa wb)) :=
  PE.imp (pe_op ho ha hb) fun _ _ _ h => te_op hr h
theorem q_cmp {op : CmpOp} {r : R2} {o : O2} {a b : Expr} {wa wb : DE (Kd × D)} {pos : Pos} (ho : OpR X (compareOp op) r) (hr : OkR2 X.K r o) (ha : PE X a (te X.K W wa)) (hb : PE X b (te X.K W wb)) (hm : behindInMarks op b = false) : PE X (.Compare a [op] [b] pos) (te X.K W (wOp o wa wb)) :=
  PE.imp (pe_cmpR ho ha hb hm) fun _ _ _ h => te_op hr h
theorem q_ix {r : R2} {o : O2} {a b : Expr} {wa wb : DE (Kd × D)} {pos : Pos} (ho : IxR X r) (hr : OkR2 X.K r o) (ha : PE X a (te X.K W wa)) (hb : PE X b (te X.K W wb)) (hs : PlainIx b) : PE X (.Subscript a b pos) (te X.K W (wOp o wa wb)) :=
  PE.imp (pe_ix ho ha hb hs) fun _ _ _ h => te_op hr h
/-- of one value, of a list of values -/
abbrev O1 := Kd × D → (Kd × D → Prop) → Prop
abbrev OL := List (Kd × D) → (Kd × D → Prop) → Prop
def OkR1 (K : PySem.W.Frag) (r : V → Hp → VK → Prop) (o : O1) : Prop := ∀ (S0 S : Sta) (x : V) (dx : Kd × D) (Q : VK) (q : Kd × D → Prop), S.ok K →
  Has K S0 S dx.1 x dx.2 → o dx q → (∀ z, q z → ∀ (v : V) (G' H' : Hp), Grow S.G S.H G' H' → Has K S (S.at G' H') z.1 v z.2 → Q v H') → r x S.H Q
def OkRL (K : PySem.W.Frag) (r : List V → Hp → VK → Prop) (o : OL) : Prop := ∀ (S0 S : Sta) (x : List V) (dx : List (Kd × D)) (Q : VK) (q : Kd × D → Prop), S.ok K →
  HasA K S0 S x dx → o dx q → (∀ z, q z → ∀ (v : V) (G' H' : Hp), Grow S.G S.H G' H' → Has K S (S.at G' H') z.1 v z.2 → Q v H') → r x S.H Q
def wUn (o : O1) (wa : DE (Kd × D)) : DE (Kd × D) := fun ρ P => wa ρ ⟨fun p1 x ρ1 => o x fun z => P.ok p1 z ρ1, P.ex⟩
theorem te_un {r : V → Hp → VK → Prop} {o : O1} {wa : DE (Kd × D)} {Q : VK} (hr : OkR1 K r o) (h : te K W (wUn o wa) σ H Q) : tUn r (te K W wa) σ H Q := by
  obtain ⟨S, P, rfl, rfl, ok, w, k, ex⟩ := h
  refine ⟨S, _, rfl, rfl, ok, w, fun p1 x S1 w1 e1 ok1 t1 pr1 v1 h1 => ?_, ex⟩
  refine hr S S1 v1 x Q _ ok1 h1 w1 fun z qz v G' H' g hz => ?_
  exact k _ _ (S1.at G' H') qz e1 (Sta.grow ok1 g) (t1.trans g.to) (pr1.add g.tch) v (hz.from t1)
theorem q_un {op : UnaryOp} {r : V → Hp → VK → Prop} {o : O1} {a : Expr} {wa : DE (Kd × D)} {pos : Pos} (ho : UnR X (unaryOp op) r) (hr : OkR1 X.K r o) (ha : PE X a (te X.K W wa)) : PE X (.UnaryOp op a pos) (te X.K W (wUn o wa)) :=
  PE.imp (pe_un ho ha) fun _ _ _ h => te_un hr h
def wCB (o : OL) (wa : DE (List (Kd × D))) : DE (Kd × D) := fun ρ P => wa ρ ⟨fun p1 x ρ1 => o x fun z => P.ok p1 z ρ1, P.ex⟩
theorem te_cb {r : List V → Hp → VK → Prop} {o : OL} {wa : DE (List (Kd × D))} {Q : VK} (hr : OkRL K r o) (h : te K W (wCB o wa) σ H Q) : tCB r (ta K W wa) σ H Q := by
  obtain ⟨S, P, rfl, rfl, ok, w, k, ex⟩ := h
  refine ⟨S, _, rfl, rfl, ok, w, fun p1 x S1 w1 e1 ok1 t1 pr1 v1 h1 => ?_, ex⟩
  refine hr S S1 v1 x Q _ ok1 h1 w1 fun z qz v G' H' g hz => ?_
  exact k _ _ (S1.at G' H') qz e1 (Sta.grow ok1 g) (t1.trans g.to) (pr1.add g.tch) v (hz.from t1)
theorem q_callB {x : Str} {id : String} {r : List V → Hp → VK → Prop} {o : OL} {e : Expr} {es : List Expr} {wa : DE (List (Kd × D))} {p pos : Pos} (hc : CallR X (.builtin id) r) (hr : OkRL X.K r o) (hg : Gl X x) (hm : X.mg x = none) (hv : bootBuiltins x = some (.builtin id)) (ha : PA X (e :: es) (ta X.K W wa)) (hn : x ≠ "__name__" := by decide) (hdb : (x == ("__debug__" : Str)) = false := by decide)
    (he : starEach (e :: es) X.env = (false, eval e X.env) :: starEach es X.env := by rfl) (hpl : (backTo pos (starEach es X.env)).any (·.1) = false := by rfl) : PE X (.Call (.Name x p) (e :: es) [] pos) (te X.K W (wCB o wa)) :=
  PE.imp (pe_callB hc hg hm hv ha hn hdb he hpl) fun _ _ _ h => te_cb hr h
theorem q_callTy {x : Str} {T : String} {r : List V → Hp → VK → Prop} {o : OL} {e : Expr} {es : List Expr} {wa : DE (List (Kd × D))} {p pos : Pos} (hc : CallR X (.type T) r) (hr : OkRL X.K r o) (hg : Gl X x) (hm : X.mg x = none) (hv : bootBuiltins x = some (.type T)) (ha : PA X (e :: es) (ta X.K W wa)) (hn : x ≠ "__name__" := by decide) (hdb : (x == ("__debug__" : Str)) = false := by decide)
    (he : starEach (e :: es) X.env = (false, eval e X.env) :: starEach es X.env := by rfl) (hpl : (backTo pos (starEach es X.env)).any (·.1) = false := by rfl) : PE X (.Call (.Name x p) (e :: es) [] pos) (te X.K W (wCB o wa)) :=
  PE.imp (pe_callTy hc hg hm hv ha hn hdb he hpl) fun _ _ _ h => te_cb hr h
end
end VL

namespace VL
open PySem PySem.Spec PyProof.Rows L2
section
variable {K : PySem.W.Frag} {W : WX} {G G' H H' H0 : Hp} {σ : L2.St} {ρ : Rho} {f f' : Own} {pin : Nat → Option V} {X : Cx} {S S0 S1 T T1 T2 : Sta}

/-! ### what is owned becomes what nobody changes -/
open Classical in
noncomputable def Gadd (G H : Hp) (B : Addr → Prop) : Hp := fun a => if B a then H a else G a
theorem Gadd.in {B : Addr → Prop} {a : Addr} (h : B a) : Gadd G H B a = H a := if_pos h
theorem Gadd.out {B : Addr → Prop} {a : Addr} (h : ¬ B a) : Gadd G H B a = G a := if_neg h
theorem Gadd.ext {B : Addr → Prop} (k : ∀ a, B a → G a = none) : Ex G (Gadd G H B) := fun a o e => by
  rw [Gadd.out fun h => by rw [k a h] at e; cases e]; exact e
theorem Gadd.sub {B : Addr → Prop} (e : Ex G H) : Ex (Gadd G H B) H := fun a o q => by
  by_cases h : B a
  · rw [Gadd.in h] at q; exact q
  · rw [Gadd.out h] at q; exact e a o q
theorem Sx.gadd (S : Sx K pin G H σ ρ f) {B : Addr → Prop} (k : ∀ a, B a → G a = none ∧ ¬ Ow f a) : Sx K pin (Gadd G H B) H σ ρ f where
  ext := Gadd.sub S.ext
  len := S.len
  slot := fun i m d e => by
    obtain ⟨v, h1, r⟩ := S.slot i m d e
    exact ⟨v, h1, r.keep (Gadd.ext fun a h => (k a h).1) fun a _ o h => h⟩
  emp := S.emp
  nd := S.nd
  dj := S.dj
  out := fun i a h => by
    rw [Gadd.out fun z => (k a z).2 ⟨i, h⟩]
    exact S.out i a h
  pins := S.pins
/-- what is new since S is frozen -/
theorem Sta.to.gadd (t : S.to T) {B : Addr → Prop} (k : ∀ a, B a → T.G a = none ∧ ¬ Ow T.f a ∧ Nw S a) : S.to (T.at (Gadd T.G T.H B) T.H) where
  stp := {
    gext := t.stp.gext.trans (Gadd.ext fun a h => (k a h).1)
    keep := t.stp.keep
    gold := fun a h1 h2 => by
      show Gadd T.G T.H B a = _
      rw [Gadd.out fun z => ?_]
      · exact t.stp.gold a h1 h2
      · rcases (k a z).2.2 with q | q
        · exact h2 q
        · exact h1 q
    fnew := t.stp.fnew
    trk := t.stp.trk }
  pin := t.pin
def Kd.frz : Kd → Kd
  | .new _ => .fz
  | k => k
def wFz (w : DE (Kd × D)) : DE (Kd × D) := fun ρ P => w ρ ⟨fun p x ρ' => P.ok p (x.1.frz, x.2) ρ', P.ex⟩
theorem te_fz {w : DE (Kd × D)} {Q : VK} (h : te K W (wFz w) σ H Q) : te K W w σ H Q := by
  obtain ⟨S, P, rfl, rfl, ok, w, k, ex⟩ := h
  refine ⟨S, _, rfl, rfl, ok, w, fun p x T w1 e1 ok1 t1 pr1 v h1 => ?_, ex⟩
  obtain ⟨kd, d⟩ := x
  cases kd with
  | fz => exact k _ _ T w1 e1 ok1 t1 pr1 v h1
  | bor i q m => exact k _ _ T w1 e1 ok1 t1 pr1 v h1
  | new m =>
    obtain ⟨fp, r, n, kk⟩ := h1
    refine k _ _ (T.at (Gadd T.G T.H (· ∈ fp)) T.H) w1 e1 (Sx.gadd ok1 fun a h => ⟨(kk a h).1, (kk a h).2.1⟩) (t1.gadd kk) pr1 v ?_
    show Dt K _ v d
    exact r.dt (Gadd.ext fun a h => (kk a h).1) fun a ha o q => by rw [Gadd.in ha]; exact q
theorem q_fz {e : Expr} {w : DE (Kd × D)} (h : PE X e (te X.K W w)) : PE X e (te X.K W (wFz w)) := PE.imp h fun _ _ _ h => te_fz h

/-! ### argument lists -/
def wNil : DE (List (Kd × D)) := fun ρ P => P.ok [] [] ρ
def wCons (wa : DE (Kd × D)) (wr : DE (List (Kd × D))) : DE (List (Kd × D)) := fun ρ P => wFz wa ρ ⟨fun p1 x ρ1 => wr ρ1 ⟨fun p2 xs ρ2 => hold x.1 p2 = true ∧ P.ok (p1 ++ p2) (x :: xs) ρ2, P.ex⟩, P.ex⟩
theorem ta_nil {Q : List V → Hp → Prop} (h : ta K W wNil σ H Q) : tNil σ H Q := by
  obtain ⟨S, P, rfl, rfl, ok, w, k, _⟩ := h
  exact k _ _ S w rfl ok (Sta.refl S) (Tch.refl S _) [] .nil
theorem HasA.from {vs : List V} {ds : List (Kd × D)} (h : HasA K S0 T vs ds) (s : S.to S0) : HasA K S T vs ds := by
  induction h with
  | nil => exact .nil
  | cons h t ih => exact .cons (h.from s) ih
theorem ta_cons {wa : DE (Kd × D)} {wr : DE (List (Kd × D))} {Q : List V → Hp → Prop} (h : ta K W (wCons wa wr) σ H Q) : tCons (te K W wa) (ta K W wr) σ H Q := by
  obtain ⟨S, P, rfl, rfl, ok, w, k, ex⟩ := h
  unfold wCons at w
  show te K W wa S.σ S.H fun x H1 => ta K W wr S.σ H1 fun xs H2 => Q (x :: xs) H2
  refine te_fz ⟨S, _, rfl, rfl, ok, w, fun p1 x S1 w1 e1 ok1 t1 pr1 v1 h1 => ?_, ex⟩
  refine ⟨S1, _, e1, rfl, ok1, w1, fun p2 xs S2 w2 e2 ok2 t2 pr2 vs h2 => ?_, fun C fl T e es okT tT dd hd => ex C fl T e es okT (t1.trans tT) dd hd⟩
  exact k _ _ S2 w2.2 e2 ok2 (t1.trans t2) (pr1.trans pr2) _ (.cons (h1.stp ok1 t2 (e2.trans e1.symm) pr2 w2.1) (h2.from t1))
theorem q_nil : PA X [] (ta X.K W wNil) := PA.imp pa_nil fun _ _ _ h => ta_nil h
theorem q_cons {e : Expr} {es : List Expr} {wa : DE (Kd × D)} {wr : DE (List (Kd × D))} (ha : PE X e (te X.K W wa)) (hr : PA X es (ta X.K W wr)) (hs : starEach (e :: es) X.env = (false, eval e X.env) :: starEach es X.env := by rfl) : PA X (e :: es) (ta X.K W (wCons wa wr)) :=
  PA.imp (pa_cons ha hr hs) fun _ _ _ h => ta_cons h

/-! ### displays -/
def allFz : List (Kd × D) → Bool
  | [] => true
  | (.fz, _) :: r => allFz r
  | _ => false
theorem HasA.fzs {vs : List V} : ∀ {ds : List (Kd × D)}, HasA K S0 T vs ds → allFz ds = true → DtA K T.G vs (ds.map (·.2)) := by
  intro ds h
  induction h with
  | nil => exact fun _ => .nil
  | @cons v kd d vs ds h t ih =>
    intro a
    cases kd with
    | fz => exact .cons h (ih a)
    | bor i p m => cases a
    | new m => cases a
theorem HasA.len {vs : List V} {ds : List (Kd × D)} (h : HasA K S0 T vs ds) : vs.length = ds.length := by
  induction h with
  | nil => rfl
  | cons h t ih => simp [ih]
theorem DtA.len {G : Hp} : ∀ {vs : List V} {ds : List D}, DtA K G vs ds → vs.length = ds.length
  | _, _, .nil => rfl
  | _, _, .cons h t => by simp [DtA.len t]
theorem DtA.get {G : Hp} : ∀ {vs : List V} {ds : List D} {j : Nat} {d : D}, DtA K G vs ds → ds[j]? = some d → ∃ v, vs[j]? = some v ∧ Dt K G v d
  | _, _, _, _, .nil, h => by simp at h
  | _, _, 0, _, .cons h t, e => by simp at e; subst e; exact ⟨_, rfl, h⟩
  | _, _, j + 1, _, .cons h t, e => by
    obtain ⟨v, e1, h1⟩ := DtA.get t (j := j) (by simpa using e)
    exact ⟨v, by simpa using e1, h1⟩
theorem DtA.append {G : Hp} : ∀ {vs ws : List V} {ds es : List D}, DtA K G vs ds → DtA K G ws es → DtA K G (vs ++ ws) (ds ++ es)
  | _, _, _, _, .nil, h => h
  | _, _, _, _, .cons h t, h' => .cons h (DtA.append t h')
theorem DtA.rev {G : Hp} {vs : List V} {ds : List D} (h : DtA K G vs ds) : DtA K G vs.reverse ds.reverse := by
  induction ds generalizing vs with
  | nil => cases h; exact .nil
  | cons d ds ih =>
    cases h with
    | cons h t =>
      rw [List.reverse_cons, List.reverse_cons]
      exact DtA.append (ih t) (.cons h .nil)
theorem DtA.take {G : Hp} : ∀ {vs : List V} {ds : List D} (n : Nat), DtA K G vs ds → DtA K G (vs.take n) (ds.take n)
  | _, _, 0, _ => by simp; exact .nil
  | _, _, _ + 1, .nil => by simp; exact .nil
  | _, _, n + 1, .cons h t => by simp; exact .cons h (DtA.take n t)
theorem DtA.drop {G : Hp} : ∀ {vs : List V} {ds : List D} (n : Nat), DtA K G vs ds → DtA K G (vs.drop n) (ds.drop n)
  | _, _, 0, h => by simpa using h
  | _, _, _ + 1, .nil => by simp; exact .nil
  | _, _, n + 1, .cons h t => by simp; exact DtA.drop n t
theorem DtA.rep {G : Hp} {vs : List V} {ds : List D} (h : DtA K G vs ds) : ∀ n : Nat, DtA K G (List.replicate n vs).flatten (List.replicate n ds).flatten
  | 0 => by simp; exact .nil
  | n + 1 => by simp only [List.replicate_succ, List.flatten_cons]; exact DtA.append h (DtA.rep h n)
theorem RA.of_dt {G H : Hp} : ∀ {vs : List V} {ds : List D}, DtA K G vs ds → RA K G H .F vs ds []
  | _, _, .nil => .nil
  | _, _, .cons h t => by
    have q := RA.cons (H := H) (.F h) (RA.of_dt (H := H) t)
    simpa using q
theorem RA.F_dt {G H : Hp} : ∀ {vs : List V} {ds : List D} {fp : List Addr}, RA K G H .F vs ds fp → DtA K G vs ds ∧ fp = []
  | _, _, _, .nil => ⟨.nil, rfl⟩
  | _, _, _, .cons h t => by
    obtain ⟨h1, h2⟩ := h.F_inv
    obtain ⟨h3, h4⟩ := RA.F_dt t
    exact ⟨.cons h1 h3, by rw [h2, h4]; rfl⟩
def small (n : Nat) : Bool := Nat.ble n 100000
theorem small_sz {n : Nat} (h : small n = true) : n ≤ sizeLine := Nat.le_trans (Nat.le_of_ble_eq_true h) (by decide)
def wTup (wa : DE (List (Kd × D))) : DE (Kd × D) := fun ρ P => wa ρ ⟨fun p xs ρ' => (allFz xs = true ∧ small xs.length = true) ∧ P.ok p (.fz, .tup (xs.map (·.2))) ρ', P.ex⟩
def wLst (wa : DE (List (Kd × D))) : DE (Kd × D) := fun ρ P => wa ρ ⟨fun p xs ρ' => (allFz xs = true ∧ small xs.length = true) ∧ P.ok p (.new (.L .F), .lst (xs.map (·.2))) ρ', P.ex⟩
theorem Dt.tup_new {p : Addr} {vs : List V} {ds : List D} (h : DtA K G vs ds) (hp : G p = none) : Dt K (upd G p (.tup vs)) (.ref p) (.tup ds) := .tup (.of upd_same) (h.mono (Ex.new hp))
/-- a new list of one's own, of frozen things -/
theorem Has.lst_new {p : Addr} {vs : List V} {ds : List D} (ok : T.ok K) (h : DtA K T.G vs ds) (hp : T.H p = none) (n : S0.H p = none) : Has K S0 (T.at T.G (upd T.H p (.lst vs))) (.new (.L .F)) (.ref p) (.lst ds) := by
  refine ⟨[p], .L upd_same (RA.of_dt h), by simp, fun a ha => ?_⟩
  have e : a = p := by simpa using ha
  subst e
  exact ⟨ok.ext.free hp, fun z => ok.own z hp, .inr n⟩
theorem Stp.free {G H G' H' : Hp} {f f' : Own} (s : Stp G H f G' H' f') {a : Addr} (h : H' a = none) : H a = none := by
  cases e : H a with
  | none => rfl
  | some o => exact absurd h (s.trk a (by rw [e]; exact fun z => nomatch z))
theorem te_tup {wa : DE (List (Kd × D))} {Q : VK} (h : te K W (wTup wa) σ H Q) : tTup (ta K W wa) σ H Q := by
  obtain ⟨S, P, rfl, rfl, ok, w, k, ex⟩ := h
  refine ⟨S, _, rfl, rfl, ok, w, fun p1 x S1 w1 e1 ok1 t1 pr1 v1 h1 => ?_, ex⟩
  refine ⟨by rw [h1.len]; exact small_sz w1.1.2, fun p hp => ?_⟩
  have g : Grow S1.G S1.H (upd S1.G p (.tup v1)) (upd S1.H p (.tup v1)) := Grow.new ok1.ext hp
  exact k _ _ (S1.at (upd S1.G p (.tup v1)) (upd S1.H p (.tup v1))) w1.2 e1 (Sta.grow ok1 g) (t1.trans g.to) (pr1.add g.tch) _ (Dt.tup_new (h1.fzs w1.1.1) (ok1.ext.free hp))
theorem te_lst {wa : DE (List (Kd × D))} {Q : VK} (h : te K W (wLst wa) σ H Q) : tLst (ta K W wa) σ H Q := by
  obtain ⟨S, P, rfl, rfl, ok, w, k, ex⟩ := h
  refine ⟨S, _, rfl, rfl, ok, w, fun p1 x S1 w1 e1 ok1 t1 pr1 v1 h1 => ?_, ex⟩
  refine ⟨by rw [h1.len]; exact small_sz w1.1.2, fun p hp => ?_⟩
  have g : Grow S1.G S1.H S1.G (upd S1.H p (.lst v1)) := Grow.own ok1.ext hp
  exact k _ _ (S1.at S1.G (upd S1.H p (.lst v1))) w1.2 e1 (Sta.grow ok1 g) (t1.trans g.to) (pr1.add g.tch) _ (Has.lst_new ok1 (h1.fzs w1.1.1) hp (t1.stp.free hp))
theorem q_tup {es : List Expr} {x1 : Nat} {pos : Pos} {wa : DE (List (Kd × D))} (h : PA X es (ta X.K W wa)) : PE X (.Tuple es x1 pos) (te X.K W (wTup wa)) := PE.imp (pe_tup h) fun _ _ _ h => te_tup h
theorem q_lst {es : List Expr} {pos : Pos} {wa : DE (List (Kd × D))} (h : PA X es (ta X.K W wa)) : PE X (.List es pos) (te X.K W (wLst wa)) := PE.imp (pe_lst h) fun _ _ _ h => te_lst h
/-- {} -/
def wDic : DE (Kd × D) := fun ρ P => P.ok [] (.new .K, .dct []) ρ
theorem te_dic {Q : VK} (h : te K W wDic σ H Q) : tDNewK σ H Q := by
  obtain ⟨S, P, rfl, rfl, ok, w, k, ex⟩ := h
  intro p hp
  have g : Grow S.G S.H S.G (upd S.H p (.dK [])) := Grow.own ok.ext hp
  refine k _ _ (S.at S.G (upd S.H p (.dK []))) w rfl (Sta.grow ok g) g.to g.tch _ ⟨[p], .K upd_same .nil, by simp, fun a ha => ?_⟩
  have e : a = p := by simpa using ha
  subst e
  exact ⟨ok.ext.free hp, fun z => ok.own z hp, .inr hp⟩
theorem q_dic {pos : Pos} : PE X (.Dict [] [] pos) (te X.K W wDic) := PE.imp pe_dnewK fun _ _ _ h => te_dic h

/-! ### tests -/
def wT (w : DE (Kd × D)) : DE Bool := fun ρ P => w ρ ⟨fun p x ρ' => match x.2 with
  | .bl b => P.ok p b ρ'
  | _ => False, P.ex⟩
theorem Has.bl_inv (ok : T.ok K) {kd : Kd} {v : V} {b : Bool} (h : Has K S0 T kd v (.bl b)) : v = .bl b := by
  have q := h.dt ok
  cases q; rfl
theorem Has.int_inv (ok : T.ok K) {kd : Kd} {v : V} {b : Int} (h : Has K S0 T kd v (.int b)) : v = .int b := by
  have q := h.dt ok
  cases q; rfl
theorem Has.str_inv (ok : T.ok K) {kd : Kd} {v : V} {b : Str} (h : Has K S0 T kd v (.str b)) : v = .str b := by
  have q := h.dt ok
  cases q; rfl
theorem tt_T {w : DE (Kd × D)} {Q : Bool → Hp → Prop} (h : tt K W (wT w) σ H Q) : te K W w σ H fun x H1 => ∃ c, x = .bl c ∧ Q c H1 := by
  obtain ⟨S, P, rfl, rfl, ok, w, k, ex⟩ := h
  unfold wT at w
  refine ⟨S, _, rfl, rfl, ok, w, fun p1 x S1 w1 e1 ok1 t1 pr1 v1 h1 => ?_, ex⟩
  obtain ⟨kd, d⟩ := x
  cases d with
  | bl b => exact ⟨b, h1.bl_inv ok1, k _ _ S1 w1 e1 ok1 t1 pr1 _ rfl⟩
  | _ => exact w1.elim
/-- a call, a name, .. as a test -/
theorem q_tval {e : Expr} {w : DE (Kd × D)} (h : PE X e (te X.K W w)) (he : ∀ whole, isTrue e X.env whole = (do let v ← whole; standAt e.pos; holding [v] (truthy v)) := by intro _; rfl) : PT X e (tt X.K W (wT w)) :=
  PT.imp (pt_val h he) fun _ _ _ h => tt_T h
theorem q_tcmp {op : CmpOp} {r : R2} {o : O2} {a b : Expr} {wa wb : DE (Kd × D)} {pos : Pos} (ho : OpR X (compareOp op) r) (hr : OkR2 X.K r o) (ha : PE X a (te X.K W wa)) (hb : PE X b (te X.K W wb)) (hm : behindInMarks op b = false) : PT X (.Compare a [op] [b] pos) (tt X.K W (wT (wOp o wa wb))) :=
  PT.imp (pt_cmpR ho ha hb hm) fun _ _ _ h => te_op hr (tt_T h)
def wAnd (a b : DE Bool) : DE Bool := fun ρ P => a ρ ⟨fun p1 c ρ1 => match c with
  | true => b ρ1 ⟨fun p2 c2 ρ2 => P.ok (p1 ++ p2) c2 ρ2, P.ex⟩
  | false => P.ok p1 false ρ1, P.ex⟩
def wOr (a b : DE Bool) : DE Bool := fun ρ P => a ρ ⟨fun p1 c ρ1 => match c with
  | true => P.ok p1 true ρ1
  | false => b ρ1 ⟨fun p2 c2 ρ2 => P.ok (p1 ++ p2) c2 ρ2, P.ex⟩, P.ex⟩
def wNot (a : DE Bool) : DE Bool := fun ρ P => a ρ ⟨fun p1 c ρ1 => P.ok p1 (!c) ρ1, P.ex⟩
theorem tt_and {a b : DE Bool} {Q : Bool → Hp → Prop} (h : tt K W (wAnd a b) σ H Q) : tAnd (tt K W a) (tt K W b) σ H Q := by
  obtain ⟨S, P, rfl, rfl, ok, w, k, ex⟩ := h
  unfold wAnd at w
  refine ⟨S, _, rfl, rfl, ok, w, fun p1 c S1 w1 e1 ok1 t1 pr1 v1 h1 => ?_, ex⟩
  subst h1
  cases v1 with
  | true =>
    refine ⟨S1, _, e1, rfl, ok1, w1, fun p2 c2 S2 w2 e2 ok2 t2 pr2 v2 h2 => ?_, fun C fl T e es okT tT dd hd => ex C fl T e es okT (t1.trans tT) dd hd⟩
    exact k _ _ S2 w2 e2 ok2 (t1.trans t2) (pr1.trans pr2) _ h2
  | false => exact k _ _ S1 w1 e1 ok1 t1 pr1 _ rfl
theorem tt_or {a b : DE Bool} {Q : Bool → Hp → Prop} (h : tt K W (wOr a b) σ H Q) : tOr (tt K W a) (tt K W b) σ H Q := by
  obtain ⟨S, P, rfl, rfl, ok, w, k, ex⟩ := h
  unfold wOr at w
  refine ⟨S, _, rfl, rfl, ok, w, fun p1 c S1 w1 e1 ok1 t1 pr1 v1 h1 => ?_, ex⟩
  subst h1
  cases v1 with
  | false =>
    refine ⟨S1, _, e1, rfl, ok1, w1, fun p2 c2 S2 w2 e2 ok2 t2 pr2 v2 h2 => ?_, fun C fl T e es okT tT dd hd => ex C fl T e es okT (t1.trans tT) dd hd⟩
    exact k _ _ S2 w2 e2 ok2 (t1.trans t2) (pr1.trans pr2) _ h2
  | true => exact k _ _ S1 w1 e1 ok1 t1 pr1 _ rfl
theorem tt_not {a : DE Bool} {Q : Bool → Hp → Prop} (h : tt K W (wNot a) σ H Q) : tNot (tt K W a) σ H Q := by
  obtain ⟨S, P, rfl, rfl, ok, w, k, ex⟩ := h
  refine ⟨S, _, rfl, rfl, ok, w, fun p1 c S1 w1 e1 ok1 t1 pr1 v1 h1 => ?_, ex⟩
  subst h1
  exact k _ _ S1 w1 e1 ok1 t1 pr1 _ rfl
section
variable {a b : Expr} {rest : List Expr} {pos : Pos} {wa wb : DE Bool}
theorem qw_and1 (ha : PT X a (tt X.K W wa)) : PW X (.BoolOp .And [a] pos) (tt X.K W wa) := pw_and1 ha
theorem qw_or1 (ha : PT X a (tt X.K W wa)) : PW X (.BoolOp .Or [a] pos) (tt X.K W wa) := pw_or1 ha
theorem qw_and (ha : PT X a (tt X.K W wa)) (hb : PW X (.BoolOp .And (b :: rest) pos) (tt X.K W wb)) : PW X (.BoolOp .And (a :: b :: rest) pos) (tt X.K W (wAnd wa wb)) := PW.imp (pw_and ha hb) fun _ _ _ h => tt_and h
theorem qw_or (ha : PT X a (tt X.K W wa)) (hb : PW X (.BoolOp .Or (b :: rest) pos) (tt X.K W wb)) : PW X (.BoolOp .Or (a :: b :: rest) pos) (tt X.K W (wOr wa wb)) := PW.imp (pw_or ha hb) fun _ _ _ h => tt_or h
theorem q_not (ha : PT X a (tt X.K W wa)) : PT X (.UnaryOp .Not a pos) (tt X.K W (wNot wa)) := PT.imp (pt_not ha) fun _ _ _ h => tt_not h
end
/-- .. as values (of bools) -/
def wAndV (a b : DE (Kd × D)) : DE (Kd × D) := fun ρ P => a ρ ⟨fun p1 x ρ1 => match x.2 with
  | .bl true => b ρ1 ⟨fun p2 c2 ρ2 => P.ok (p1 ++ p2) c2 ρ2, P.ex⟩
  | .bl false => P.ok p1 (.fz, .bl false) ρ1
  | _ => False, P.ex⟩
def wOrV (a b : DE (Kd × D)) : DE (Kd × D) := fun ρ P => a ρ ⟨fun p1 x ρ1 => match x.2 with
  | .bl false => b ρ1 ⟨fun p2 c2 ρ2 => P.ok (p1 ++ p2) c2 ρ2, P.ex⟩
  | .bl true => P.ok p1 (.fz, .bl true) ρ1
  | _ => False, P.ex⟩
def wNotV (a : DE (Kd × D)) : DE (Kd × D) := fun ρ P => a ρ ⟨fun p1 x ρ1 => match x.2 with
  | .bl b => P.ok p1 (.fz, .bl (!b)) ρ1
  | _ => False, P.ex⟩
theorem te_andV {a b : DE (Kd × D)} {Q : VK} (h : te K W (wAndV a b) σ H Q) : tAndV (te K W a) (te K W b) σ H Q := by
  obtain ⟨S, P, rfl, rfl, ok, w, k, ex⟩ := h
  unfold wAndV at w
  refine ⟨S, _, rfl, rfl, ok, w, fun p1 x S1 w1 e1 ok1 t1 pr1 v1 h1 => ?_, ex⟩
  obtain ⟨kd, d⟩ := x
  cases d with
  | bl b =>
    refine ⟨b, h1.bl_inv ok1, ?_⟩
    cases b with
    | true =>
      refine ⟨S1, _, e1, rfl, ok1, w1, fun p2 c2 S2 w2 e2 ok2 t2 pr2 v2 h2 => ?_, fun C fl T e es okT tT dd hd => ex C fl T e es okT (t1.trans tT) dd hd⟩
      exact k _ _ S2 w2 e2 ok2 (t1.trans t2) (pr1.trans pr2) _ (h2.from t1)
    | false => exact k _ _ S1 w1 e1 ok1 t1 pr1 _ (.bl false)
  | _ => exact w1.elim
theorem te_notV {a : DE (Kd × D)} {Q : VK} (h : te K W (wNotV a) σ H Q) : tNotV (te K W a) σ H Q := by
  obtain ⟨S, P, rfl, rfl, ok, w, k, ex⟩ := h
  unfold wNotV at w
  refine ⟨S, _, rfl, rfl, ok, w, fun p1 x S1 w1 e1 ok1 t1 pr1 v1 h1 => ?_, ex⟩
  obtain ⟨kd, d⟩ := x
  cases d with
  | bl b => exact ⟨b, h1.bl_inv ok1, k _ _ S1 w1 e1 ok1 t1 pr1 _ (.bl _)⟩
  | _ => exact w1.elim
def wIf (t : DE Bool) (a b : DE (Kd × D)) : DE (Kd × D) := fun ρ P => t ρ ⟨fun p1 c ρ1 => match c with
  | true => a ρ1 ⟨fun p2 x ρ2 => P.ok (p1 ++ p2) x ρ2, P.ex⟩
  | false => b ρ1 ⟨fun p2 x ρ2 => P.ok (p1 ++ p2) x ρ2, P.ex⟩, P.ex⟩
theorem te_if {t : DE Bool} {a b : DE (Kd × D)} {Q : VK} (h : te K W (wIf t a b) σ H Q) : tIf (tt K W t) (te K W a) (te K W b) σ H Q := by
  obtain ⟨S, P, rfl, rfl, ok, w, k, ex⟩ := h
  unfold wIf at w
  refine ⟨S, _, rfl, rfl, ok, w, fun p1 c S1 w1 e1 ok1 t1 pr1 v1 h1 => ?_, ex⟩
  subst h1
  cases v1 with
  | true =>
    show te K W a S.σ S1.H Q
    refine ⟨S1, _, e1, rfl, ok1, w1, fun p2 c2 S2 w2 e2 ok2 t2 pr2 v2 h2 => ?_, fun C fl T e es okT tT dd hd => ex C fl T e es okT (t1.trans tT) dd hd⟩
    exact k _ _ S2 w2 e2 ok2 (t1.trans t2) (pr1.trans pr2) _ (h2.from t1)
  | false =>
    show te K W b S.σ S1.H Q
    refine ⟨S1, _, e1, rfl, ok1, w1, fun p2 c2 S2 w2 e2 ok2 t2 pr2 v2 h2 => ?_, fun C fl T e es okT tT dd hd => ex C fl T e es okT (t1.trans tT) dd hd⟩
    exact k _ _ S2 w2 e2 ok2 (t1.trans t2) (pr1.trans pr2) _ (h2.from t1)
section
variable {a b c : Expr} {rest : List Expr} {pos : Pos} {wa wb wc : DE (Kd × D)} {wt : DE Bool}
theorem q_one {op} (h : PE X a (te X.K W wa)) : PE X (.BoolOp op [a] pos) (te X.K W wa) := pe_one h
theorem q_and (ha : PE X a (te X.K W wa)) (hb : PE X (.BoolOp .And (b :: rest) pos) (te X.K W wb)) : PE X (.BoolOp .And (a :: b :: rest) pos) (te X.K W (wAndV wa wb)) := PE.imp (pe_and ha hb) fun _ _ _ h => te_andV h
theorem q_notV (ha : PE X a (te X.K W wa)) : PE X (.UnaryOp .Not a pos) (te X.K W (wNotV wa)) := PE.imp (pe_not ha) fun _ _ _ h => te_notV h
theorem q_if (hc : PT X c (tt X.K W wt)) (ha : PE X a (te X.K W wa)) (hb : PE X b (te X.K W wb)) : PE X (.IfExp c a b pos) (te X.K W (wIf wt wa wb)) := PE.imp (pe_ifExp hc ha hb) fun _ _ _ h => te_if h
end
/-- a < b < c -/
def wChain (o o' : O2) (wa wb wc : DE (Kd × D)) : DE (Kd × D) := fun ρ P => wa ρ ⟨fun p1 x ρ1 => wb ρ1 ⟨fun p2 y ρ2 => hold x.1 p2 = true ∧ o x y fun z => match z.2 with
  | .bl true => wc ρ2 ⟨fun p3 u ρ3 => hold y.1 p3 = true ∧ o' y u fun z => P.ok (p1 ++ p2 ++ p3) z ρ3, P.ex⟩
  | .bl false => P.ok (p1 ++ p2) (.fz, .bl false) ρ2
  | _ => False, P.ex⟩, P.ex⟩
theorem Has.at_grow {kd : Kd} {v : V} {d : D} (ok : S.ok K) (g : Grow S.G S.H G' H') (h : Has K S0 S kd v d) : Has K S0 (S.at G' H') kd v d :=
  h.stp (p := []) ok g.to rfl g.tch (by cases kd <;> rfl)
theorem te_chain {r r' : R2} {o o' : O2} {wa wb wc : DE (Kd × D)} {Q : VK} (hr : OkR2 K r o) (hr' : OkR2 K r' o') (h : te K W (wChain o o' wa wb wc) σ H Q) : tChain r r' (te K W wa) (te K W wb) (te K W wc) σ H Q := by
  obtain ⟨S, P, rfl, rfl, ok, w, k, ex⟩ := h
  refine ⟨S, _, rfl, rfl, ok, w, fun p1 x S1 w1 e1 ok1 t1 pr1 v1 h1 => ?_, ex⟩
  refine ⟨S1, _, e1, rfl, ok1, w1, fun p2 y S2 w2 e2 ok2 t2 pr2 v2 h2 => ?_, fun C fl T e es okT tT dd hd => ex C fl T e es okT (t1.trans tT) dd hd⟩
  obtain ⟨hh, w2⟩ := w2
  refine hr S S2 v1 v2 x y _ _ ok2 (h1.stp ok1 t2 (e2.trans e1.symm) pr2 hh) (h2.from t1) w2 fun z qz v G' H' g hz => ?_
  obtain ⟨kz, dz⟩ := z
  have okg := Sta.grow ok2 g
  have t12 := (t1.trans t2).trans g.to
  cases dz with
  | bl b =>
    refine ⟨b, hz.bl_inv okg, ?_⟩
    cases b with
    | true =>
      refine ⟨S2.at G' H', _, e2, rfl, okg, qz, fun p3 u S3 w3 e3 ok3 t3 pr3 v3 h3 => ?_, fun C fl T e es okT tT dd hd => ex C fl T e es okT (t12.trans tT) dd hd⟩
      refine hr' S S3 v2 v3 y u _ _ ok3 (((h2.from t1).at_grow ok2 g).stp okg t3 (e3.trans e2.symm) pr3 w3.1) (h3.from t12) w3.2 fun z qz v G'' H'' g' hz => ?_
      exact k _ _ (S3.at G'' H'') qz e3 (Sta.grow ok3 g') ((t12.trans t3).trans g'.to) (((((pr1.trans pr2).add g.tch).trans pr3)).add g'.tch) v (hz.from (t12.trans t3))
    | false => exact k _ _ (S2.at G' H') qz e2 okg t12 ((pr1.trans pr2).add g.tch) _ (.bl false)
  | _ => exact qz.elim
theorem q_chain {op op' : CmpOp} {r r' : R2} {o o' : O2} {a b c : Expr} {wa wb wc : DE (Kd × D)} {pos : Pos} (ho : OpR X (compareOp op) r) (ho' : OpR X (compareOp op') r') (hr : OkR2 X.K r o) (hr' : OkR2 X.K r' o') (ha : PE X a (te X.K W wa)) (hb : PE X b (te X.K W wb)) (hc : PE X c (te X.K W wc))
    (hm : lastMarks [op, op'] [b, c] = false := by with_unfolding_all rfl) : PE X (.Compare a [op, op'] [b, c] pos) (te X.K W (wChain o o' wa wb wc)) :=
  PE.imp (pe_chain ho ho' ha hb hc hm) fun _ _ _ h => te_chain hr hr' h
theorem q_tchain {op op' : CmpOp} {r r' : R2} {o o' : O2} {a b c : Expr} {wa wb wc : DE (Kd × D)} {pos : Pos} (ho : OpR X (compareOp op) r) (ho' : OpR X (compareOp op') r') (hr : OkR2 X.K r o) (hr' : OkR2 X.K r' o') (ha : PE X a (te X.K W wa)) (hb : PE X b (te X.K W wb)) (hc : PE X c (te X.K W wc))
    (hm : lastMarks [op, op'] [b, c] = false := by with_unfolding_all rfl) : PT X (.Compare a [op, op'] [b, c] pos) (tt X.K W (wT (wChain o o' wa wb wc))) :=
  PT.imp (pt_chain ho ho' ha hb hc hm) fun _ _ _ h => te_chain hr hr' (tt_T h)
end
end VL

namespace VL
open PySem PySem.Spec PyProof.Rows L2
section
variable {K : PySem.W.Frag} {W : WX} {G G' H H' H0 : Hp} {σ : L2.St} {ρ : Rho} {f f' : Own} {pin : Nat → Option V} {X : Cx} {S S0 S1 T T1 T2 : Sta} {E : En} {Z : Ends}

theorem Lead.to (l : Lead K W S E Z) (t : S.to T) : Lead K W T E Z where
  nx := fun U e ok u => l.nx U e ok (t.trans u)
  bk := fun U e ok u => l.bk U e ok (t.trans u)
  ct := fun U e ok u => l.ct U e ok (t.trans u)
  rt := fun x U e ok u v h => l.rt x U e ok (t.trans u) v (h.from t)
  ex := fun C fl U e ok u dd h => l.ex C fl U e ok (t.trans u) dd h
/-! ### blocks -/
def wNext : DS := fun E ρ => E.nx ρ
def wSeq (a b : DS) : DS := fun E ρ => a { E with nx := b E } ρ
theorem ts_next (h : ts K W wNext Z σ H) : tNext Z σ H := by
  obtain ⟨S, E, rfl, rfl, ok, w, l⟩ := h
  exact l.nx S w ok (Sta.refl S)
theorem ts_seq {a b : DS} (h : ts K W (wSeq a b) Z σ H) : tSeq (ts K W a) (ts K W b) Z σ H := by
  obtain ⟨S, E, rfl, rfl, ok, w, l⟩ := h
  refine ⟨S, _, rfl, rfl, ok, w, ?_⟩
  exact ⟨fun T e okT t => ⟨T, E, rfl, rfl, okT, e, l.to t⟩, l.bk, l.ct, l.rt, l.ex⟩
theorem qs_nil : PSs X [] (ts X.K W wNext) := PSs.imp pss_nil fun _ _ _ h => ts_next h
theorem qs_cons {s : Stmt} {r : List Stmt} {a b : DS} (h : PS X s (ts X.K W a)) (t : PSs X r (ts X.K W b)) : PSs X (s :: r) (ts X.K W (wSeq a b)) := PSs.imp (pss_cons h t) fun _ _ _ h => ts_seq h
theorem qs_one {s : Stmt} {a : DS} (h : PS X s (ts X.K W a)) : PSs X [s] (ts X.K W a) := pss_one h
def wBreak : DS := fun E ρ => E.bk ρ
def wCont : DS := fun E ρ => E.ct ρ
/-- an expression within a statement -/
theorem te_in {we : DE (Kd × D)} {P : List Nat → Kd × D → Rho → Prop} {Q : VK} (ok : S.ok K) (l : Lead K W S E Z) (w : we S.ρ ⟨P, E.ex⟩)
    (k : ∀ p x (T : Sta), P p x T.ρ → T.σ = S.σ → T.ok K → S.to T → Tch p S T → ∀ v : V, Has K S T x.1 v x.2 → Q v T.H) : te K W we S.σ S.H Q :=
  ⟨S, ⟨P, E.ex⟩, rfl, rfl, ok, w, k, fun C fl T e es okT tT dd hd => es ▸ l.ex C fl T e okT tT dd hd⟩
def wDrop (we : DE (Kd × D)) : DS := fun E ρ => we ρ ⟨fun _ _ ρ' => E.nx ρ', E.ex⟩
theorem ts_drop {we : DE (Kd × D)} (h : ts K W (wDrop we) Z σ H) : tDrop (te K W we) Z σ H := by
  obtain ⟨S, E, rfl, rfl, ok, w, l⟩ := h
  exact te_in ok l w fun p x T e es okT t _ v _ => es ▸ l.nx T e okT t
theorem q_expr {e : Expr} {we : DE (Kd × D)} {pos : Pos} (he : PE X e (te X.K W we)) (hs : swapsWith e none pos.line X.env = pure false := by rfl) : PS X (.Expr e pos) (ts X.K W (wDrop we)) := PS.imp (ps_expr he hs) fun _ _ _ h => ts_drop h
def wRet (we : DE (Kd × D)) : DS := fun E ρ => we ρ ⟨fun _ x ρ' => E.rt x ρ', E.ex⟩
theorem ts_ret {we : DE (Kd × D)} (h : ts K W (wRet we) Z σ H) : tRet (te K W we) Z σ H := by
  obtain ⟨S, E, rfl, rfl, ok, w, l⟩ := h
  exact te_in ok l w fun p x T e es okT t _ v hv => l.rt x T e okT t v hv
theorem q_ret {e : Expr} {we : DE (Kd × D)} {pos : Pos} (he : PE X e (te X.K W we)) : PS X (.Return (some e) pos) (ts X.K W (wRet we)) := PS.imp (ps_ret he) fun _ _ _ h => ts_ret h
def wRetN : DS := fun E ρ => E.rt (.fz, .non) ρ
theorem q_retN {pos : Pos} : PS X (.Return none pos) (ts X.K W wRetN) := PS.imp ps_retN fun _ _ _ h => by
  obtain ⟨S, E, rfl, rfl, ok, w, l⟩ := h
  exact l.rt _ S w ok (Sta.refl S) .non .non
def wIfS (c : DE Bool) (a b : DS) : DS := fun E ρ => c ρ ⟨fun _ k ρ' => match k with
  | true => a E ρ'
  | false => b E ρ', E.ex⟩
theorem ts_if {c : DE Bool} {a b : DS} (h : ts K W (wIfS c a b) Z σ H) : tIfS (tt K W c) (ts K W a) (ts K W b) Z σ H := by
  obtain ⟨S, E, rfl, rfl, ok, w, l⟩ := h
  unfold wIfS at w
  refine ⟨S, _, rfl, rfl, ok, w, fun p k T e es okT t _ v hv => ?_, fun C fl T e es okT tT dd hd => es ▸ l.ex C fl T e okT tT dd hd⟩
  subst hv
  cases v with
  | true => exact ⟨T, E, es, rfl, okT, e, l.to t⟩
  | false => exact ⟨T, E, es, rfl, okT, e, l.to t⟩
theorem q_ifs {c : Expr} {a b : List Stmt} {wc : DE Bool} {wa wb : DS} {pos : Pos} (hc : PT X c (tt X.K W wc)) (ha : PSs X a (ts X.K W wa)) (hb : PSs X b (ts X.K W wb)) : PS X (.If c a b pos) (ts X.K W (wIfS wc wa wb)) := PS.imp (ps_if hc ha hb) fun _ _ _ h => ts_if h
/-- a way that is never taken -/
def wNever : DS := fun _ _ => False
theorem q_never {s : Stmt} : PS X s (ts X.K W wNever) := PS.imp ps_never fun _ _ _ h => by
  obtain ⟨S, E, rfl, rfl, ok, w, l⟩ := h
  exact w
/-! ### a slot is stored -/
def okSlot : Rho → Nat → Bool
  | [], _ => false
  | x :: _, 0 => match x with
    | some (.P _, _) => false
    | _ => true
  | _ :: r, n + 1 => okSlot r n
theorem okSlot_lt : ∀ {ρ : Rho} {i : Nat}, okSlot ρ i = true → i < ρ.length
  | [], _, h => by cases h
  | _ :: _, 0, _ => Nat.zero_lt_succ _
  | _ :: r, n + 1, h => Nat.succ_lt_succ (okSlot_lt (ρ := r) h)
def notP : Md → Bool
  | .P _ => false
  | _ => true
theorem Sx.put (S : Sx K pin G H σ ρ f) {i : Nat} {m : Md} {v : V} {d : D} {fp : List Addr} (hi : okSlot ρ i = true) (hm : notP m = true) (r : R K G H m v d fp) (n : fp.Nodup) (k : ∀ a ∈ fp, G a = none ∧ (Ow f a → a ∈ f i)) :
    Sx K pin G H (σ.set i (some v)) (ρ.set i (some (m, d))) (f.set i fp) where
  ext := S.ext
  len := by simp [S.len]
  slot := fun j m' d' e => by
    by_cases c : j = i
    · subst c
      rw [List.getElem?_set_self (okSlot_lt hi)] at e
      cases e
      refine ⟨v, ?_, ?_⟩
      · rw [List.getElem?_set_self (by rw [← S.len]; exact okSlot_lt hi)]
      · rw [Own.set_same]; exact r
    · rw [List.getElem?_set_ne (Ne.symm c)] at e
      obtain ⟨u, h1, h2⟩ := S.slot j m' d' e
      exact ⟨u, by rw [List.getElem?_set_ne (Ne.symm c)]; exact h1, by rw [Own.set_ne c]; exact h2⟩
  emp := fun j e => by
    by_cases c : j = i
    · subst c
      exact absurd (List.getElem?_set_self (okSlot_lt hi)) (e m d)
    · rw [Own.set_ne c]
      exact S.emp j fun m' d' q => e m' d' (by rw [List.getElem?_set_ne (Ne.symm c)]; exact q)
  nd := fun j => by
    by_cases c : j = i
    · subst c; rw [Own.set_same]; exact n
    · rw [Own.set_ne c]; exact S.nd j
  dj := fun j j' a h h' => by
    by_cases c : j = i
    · subst c
      by_cases c' : j' = j
      · exact c'.symm
      · rw [Own.set_same] at h
        rw [Own.set_ne c'] at h'
        exact S.dj _ _ a ((k a h).2 ⟨j', h'⟩) h'
    · rw [Own.set_ne c] at h
      by_cases c' : j' = i
      · subst c'
        rw [Own.set_same] at h'
        exact S.dj _ _ a h ((k a h').2 ⟨j, h⟩)
      · rw [Own.set_ne c'] at h'
        exact S.dj _ _ a h h'
  out := fun j a h => by
    by_cases c : j = i
    · subst c; rw [Own.set_same] at h; exact (k a h).1
    · rw [Own.set_ne c] at h; exact S.out j a h
  pins := fun j m' d' e => by
    by_cases c : j = i
    · subst c
      rw [List.getElem?_set_self (okSlot_lt hi)] at e
      cases e
      cases hm
    · rw [List.getElem?_set_ne (Ne.symm c)] at e
      obtain ⟨u, h1, h2⟩ := S.pins j m' d' e
      exact ⟨u, h1, by rw [List.getElem?_set_ne (Ne.symm c)]; exact h2⟩
/-- a slot is forgotten -/
theorem Sx.forget (S : Sx K pin G H σ ρ f) (i : Nat) : Sx K pin G H σ (ρ.set i none) (f.set i []) where
  ext := S.ext
  len := by simp [S.len]
  slot := fun j m' d' e => by
    by_cases c : j = i
    · subst c
      by_cases l : j < ρ.length
      · rw [List.getElem?_set_self l] at e; cases e
      · rw [List.getElem?_eq_none (by simpa using l)] at e; cases e
    · rw [List.getElem?_set_ne (Ne.symm c)] at e
      rw [Own.set_ne c]
      exact S.slot j m' d' e
  emp := fun j e => by
    by_cases c : j = i
    · subst c; exact Own.set_same
    · rw [Own.set_ne c]
      exact S.emp j fun m' d' q => e m' d' (by rw [List.getElem?_set_ne (Ne.symm c)]; exact q)
  nd := fun j => by
    by_cases c : j = i
    · subst c; rw [Own.set_same]; exact List.nodup_nil
    · rw [Own.set_ne c]; exact S.nd j
  dj := fun j j' a h h' => by
    by_cases c : j = i
    · subst c; rw [Own.set_same] at h; cases h
    · by_cases c' : j' = i
      · subst c'; rw [Own.set_same] at h'; cases h'
      · rw [Own.set_ne c] at h; rw [Own.set_ne c'] at h'; exact S.dj _ _ a h h'
  out := fun j a h => by
    by_cases c : j = i
    · subst c; rw [Own.set_same] at h; cases h
    · rw [Own.set_ne c] at h; exact S.out j a h
  pins := fun j m' d' e => by
    by_cases c : j = i
    · subst c
      by_cases l : j < ρ.length
      · rw [List.getElem?_set_self l] at e; cases e
      · rw [List.getElem?_eq_none (by simpa using l)] at e; cases e
    · rw [List.getElem?_set_ne (Ne.symm c)] at e
      exact S.pins j m' d' e
def Sta.put (T : Sta) (i : Nat) (v : V) (m : Md) (d : D) (fp : List Addr) : Sta := { T with σ := T.σ.set i (some v), ρ := T.ρ.set i (some (m, d)), f := T.f.set i fp }
theorem Sta.to.put (t : S.to T) {i : Nat} {v : V} {m : Md} {d : D} {fp : List Addr} (k : ∀ a ∈ fp, Nw S a) : S.to (T.put i v m d fp) where
  stp := {
    gext := t.stp.gext
    keep := t.stp.keep
    gold := t.stp.gold
    fnew := fun a h => by
      obtain ⟨j, hj⟩ := h
      by_cases c : j = i
      · subst c
        have hj' : a ∈ T.f.set j fp j := hj
        rw [Own.set_same] at hj'; exact k a hj'
      · have hj' : a ∈ T.f.set i fp j := hj
        rw [Own.set_ne c] at hj'; exact t.stp.fnew a ⟨j, hj'⟩
    trk := t.stp.trk }
  pin := t.pin
def putK (i : Nat) (x : Kd × D) (ρ : Rho) (q : Rho → Prop) : Prop := match x.1 with
  | .fz => q (ρ.set i (some (.F, x.2)))
  | .new m => notP m = true ∧ q (ρ.set i (some (m, x.2)))
  | .bor _ _ _ => False
def wSet (i : Nat) (we : DE (Kd × D)) : DS := fun E ρ => we ρ ⟨fun _ x ρ' => okSlot ρ' i = true ∧ putK i x ρ' E.nx, E.ex⟩
theorem ts_set {i : Nat} {we : DE (Kd × D)} (h : ts K W (wSet i we) Z σ H) : tAsg (te K W we) (gName i) Z σ H := by
  obtain ⟨S, E, rfl, rfl, ok, w, l⟩ := h
  refine te_in ok l w fun p x T e es okT t _ v hv => ?_
  obtain ⟨kd, d⟩ := x
  show Z.nx (S.σ.set i (some v)) T.H
  rw [← es]
  cases kd with
  | fz => exact l.nx (T.put i v .F d []) e.2 (Sx.put okT e.1 rfl (.F hv) List.nodup_nil fun _ h => nomatch h) (t.put fun _ h => nomatch h)
  | new m =>
    obtain ⟨fp, r, n, k⟩ := hv
    exact l.nx (T.put i v m d fp) e.2.2 (Sx.put okT e.1 e.2.1 r n fun a h => ⟨(k a h).1, fun z => absurd z (k a h).2.1⟩) (t.put fun a h => (k a h).2.2)
  | bor j q m => exact e.2.elim
theorem q_set {i : Nat} {x : Str} {e : Expr} {we : DE (Kd × D)} {pos pos' : Pos} (hN : X.N.Nodup) (he : PE X e (te X.K W we)) (hi : X.N[i]? = some x := by rfl) (hx : Loc X.env.scope x := by first | exact Or.inl rfl | exact Or.inr rfl) (hs : swapsWith e (some (.Name x pos')) pos.line X.env = pure false := by rfl) (hf : X.fn x = true ∨ X.env.scope.names.lookup x = some .local := by first | exact .inl rfl | exact .inr rfl | assumption) :
    PS X (.Assign [.Name x pos'] e pos) (ts X.K W (wSet i we)) := PS.imp (ps_set hN hi hx he hs hf) fun _ _ _ h => ts_set h
/-- x op= e -/
def wAug (i : Nat) (o : O2) (we : DE (Kd × D)) : DS := wSet i (wOp o (wVar i) we)
theorem ts_aug {i : Nat} {r : TIp} {o : O2} {we : DE (Kd × D)} (hr : OkR2 K r o) (h : ts K W (wAug i o we) Z σ H) : tAug i (te K W we) r Z σ H := by
  have h1 := te_op (K := K) (W := W) (σ := σ) (H := H) (wa := wVar i) (wb := we) (Q := fun x H1 => Z.nx (σ.set i (some x)) H1) hr
  have h2 : te K W (wOp o (wVar i) we) σ H fun x H1 => Z.nx (σ.set i (some x)) H1 := ts_set h
  have h3 : te K W (wVar i) σ H fun x H1 => te K W we σ H1 fun y H2 => r x y H2 fun z H3 => Z.nx (σ.set i (some z)) H3 := h1 h2
  obtain ⟨v, hv, q⟩ := te_var h3
  exact ⟨v, hv, q⟩
theorem q_aug {i : Nat} {x : Str} {e : Expr} {op : Operator} {r : TIp} {o : O2} {we : DE (Kd × D)} {pos pos' : Pos} (hN : X.N.Nodup) (ho : PIp X op r) (hr : OkR2 X.K r o) (he : PE X e (te X.K W we)) (hi : X.N[i]? = some x := by rfl) (hx : Loc X.env.scope x := by first | exact Or.inl rfl | exact Or.inr rfl) (hf : X.fn x = true ∨ X.env.scope.names.lookup x = some .local := by first | exact .inl rfl | exact .inr rfl | assumption) :
    PS X (.AugAssign (.Name x pos') op e pos) (ts X.K W (wAug i o we)) := PS.imp (ps_aug hN hi hx he ho hf) fun _ _ _ h => ts_aug hr h
end
end VL

namespace VL
open PySem PySem.Spec PyProof.Rows L2
section
variable {K : PySem.W.Frag} {W : WX} {G G' H H' H0 : Hp} {σ : L2.St} {ρ : Rho} {f f' : Own} {pin : Nat → Option V} {X : Cx} {S S0 S1 T T1 T2 U : Sta} {E : En} {Z : Ends}

/-! ### a part of an owned thing is changed -/
theorem RA.lens {m : Md} : ∀ {xs : List V} {ds : List D} {fp : List Addr} {j : Nat} {x : V} {d : D}, RA K G H m xs ds fp → fp.Nodup → xs[j]? = some x → ds[j]? = some d →
    ∃ fq, R K G H m x d fq ∧ fq.Nodup ∧ (∀ a ∈ fq, a ∈ fp) ∧ ∀ (G' H' : Hp) (d' : D) (fq' : List Addr), Ex G G' → (∀ a ∈ fp, a ∉ fq → H' a = H a) → R K G' H' m x d' fq' → fq'.Nodup → (∀ a ∈ fq', a ∈ fq ∨ a ∉ fp) →
      ∃ fr, RA K G' H' m xs (ds.set j d') fr ∧ fr.Nodup ∧ ∀ a ∈ fr, (a ∈ fp ∧ a ∉ fq) ∨ a ∈ fq'
  | _, _, _, _, _, _, .nil, _, h, _ => by simp at h
  | _, _, _, 0, _, _, .cons (fp := fp) (fq := fq) r t, n, h, h' => by
    simp at h h'; subst h; subst h'
    have n' := List.nodup_append.mp n
    refine ⟨fp, r, n'.1, fun a ha => List.mem_append_left _ ha, fun G' H' d' fq' e k r' nq hq => ?_⟩
    have kt : ∀ a ∈ fq, ∀ o, H a = some o → H' a = some o := fun a ha o q => by
      rw [k a (List.mem_append_right _ ha) fun z => n'.2.2 a z a ha rfl]; exact q
    refine ⟨fq' ++ fq, .cons r' (t.keep e kt), List.nodup_append.mpr ⟨nq, n'.2.1, fun a ha b hb c => ?_⟩, fun a ha => ?_⟩
    · subst c
      rcases hq a ha with z | z
      · exact n'.2.2 a z a hb rfl
      · exact z (List.mem_append_right _ hb)
    · rcases List.mem_append.mp ha with z | z
      · exact .inr z
      · exact .inl ⟨List.mem_append_right _ z, fun c => n'.2.2 a c a z rfl⟩
  | _, _, _, j + 1, _, _, .cons (fp := fp) (fq := fq) r t, n, h, h' => by
    have n' := List.nodup_append.mp n
    obtain ⟨fs, r1, n1, s1, k1⟩ := RA.lens t n'.2.1 (j := j) (by simpa using h) (by simpa using h')
    refine ⟨fs, r1, n1, fun a ha => List.mem_append_right _ (s1 a ha), fun G' H' d' fq' e k r' nq hq => ?_⟩
    obtain ⟨fr, r2, n2, s2⟩ := k1 G' H' d' fq' e (fun a ha hn => k a (List.mem_append_right _ ha) hn) r' nq (fun a ha => (hq a ha).imp_right fun z c => z (List.mem_append_right _ c))
    have kt : ∀ a ∈ fp, ∀ o, H a = some o → H' a = some o := fun a ha o q => by
      rw [k a (List.mem_append_left _ ha) fun z => n'.2.2 a ha a (s1 a z) rfl]; exact q
    refine ⟨fp ++ fr, .cons (r.keep e kt) r2, List.nodup_append.mpr ⟨n'.1, n2, fun a ha b hb c => ?_⟩, fun a ha => ?_⟩
    · subst c
      rcases s2 a hb with z | z
      · exact n'.2.2 a ha a z.1 rfl
      · rcases hq a z with q | q
        · exact n'.2.2 a ha a (s1 a q) rfl
        · exact q (List.mem_append_left _ ha)
    · rcases List.mem_append.mp ha with z | z
      · exact .inl ⟨List.mem_append_left _ z, fun c => n'.2.2 a z a (s1 a c) rfl⟩
      · exact (s2 a z).imp_left fun q => ⟨List.mem_append_right _ q.1, q.2⟩
theorem names_mod {β γ : Type} : ∀ {ds : List (β × γ)} {j : Nat} {d' : γ}, (ds.modify j fun y => (y.1, d')).map (·.1) = ds.map (·.1)
  | [], j, _ => by cases j <;> rfl
  | _ :: _, 0, _ => rfl
  | x :: ds, j + 1, d' => by simp [List.modify_succ_cons, names_mod (ds := ds)]
theorem RS.lens : ∀ {ms : List Md} {xs : List V} {ds : List D} {fp : List Addr} {j : Nat} {m : Md} {x : V} {d : D}, RS K G H ms xs ds fp → fp.Nodup → ms[j]? = some m → xs[j]? = some x → ds[j]? = some d →
    ∃ fq, R K G H m x d fq ∧ fq.Nodup ∧ (∀ a ∈ fq, a ∈ fp) ∧ ∀ (G' H' : Hp) (d' : D) (fq' : List Addr), Ex G G' → (∀ a ∈ fp, a ∉ fq → H' a = H a) → R K G' H' m x d' fq' → fq'.Nodup → (∀ a ∈ fq', a ∈ fq ∨ a ∉ fp) →
      ∃ fr, RS K G' H' ms xs (ds.set j d') fr ∧ fr.Nodup ∧ ∀ a ∈ fr, (a ∈ fp ∧ a ∉ fq) ∨ a ∈ fq'
  | _, _, _, _, _, _, _, _, .nil, _, h, _, _ => by simp at h
  | _, _, _, _, 0, _, _, _, .cons (fp := fp) (fq := fq) r t, n, h0, h, h' => by
    simp at h0 h h'
    subst h0; subst h; subst h'
    have n' := List.nodup_append.mp n
    refine ⟨fp, r, n'.1, fun a ha => List.mem_append_left _ ha, fun G' H' d' fq' e k r' nq hq => ?_⟩
    have kt : ∀ a ∈ fq, ∀ o, H a = some o → H' a = some o := fun a ha o q => by
      rw [k a (List.mem_append_right _ ha) fun z => n'.2.2 a z a ha rfl]; exact q
    refine ⟨fq' ++ fq, by simpa using RS.cons r' (t.keep e kt), List.nodup_append.mpr ⟨nq, n'.2.1, fun a ha b hb c => ?_⟩, fun a ha => ?_⟩
    · subst c
      rcases hq a ha with z | z
      · exact n'.2.2 a z a hb rfl
      · exact z (List.mem_append_right _ hb)
    · rcases List.mem_append.mp ha with z | z
      · exact .inr z
      · exact .inl ⟨List.mem_append_right _ z, fun c => n'.2.2 a c a z rfl⟩
  | _, _, _, _, j + 1, _, _, _, .cons (fp := fp) (fq := fq) r t, n, h0, h, h' => by
    have n' := List.nodup_append.mp n
    obtain ⟨fs, r1, n1, s1, k1⟩ := RS.lens t n'.2.1 (j := j) (by simpa using h0) (by simpa using h) (by simpa using h')
    refine ⟨fs, r1, n1, fun a ha => List.mem_append_right _ (s1 a ha), fun G' H' d' fq' e k r' nq hq => ?_⟩
    obtain ⟨fr, r2, n2, s2⟩ := k1 G' H' d' fq' e (fun a ha hn => k a (List.mem_append_right _ ha) hn) r' nq (fun a ha => (hq a ha).imp_right fun z c => z (List.mem_append_right _ c))
    have kt : ∀ a ∈ fp, ∀ o, H a = some o → H' a = some o := fun a ha o q => by
      rw [k a (List.mem_append_left _ ha) fun z => n'.2.2 a ha a (s1 a z) rfl]; exact q
    refine ⟨fp ++ fr, by simpa using RS.cons (r.keep e kt) r2, List.nodup_append.mpr ⟨n'.1, n2, fun a ha b hb c => ?_⟩, fun a ha => ?_⟩
    · subst c
      rcases s2 a hb with z | z
      · exact n'.2.2 a ha a z.1 rfl
      · rcases hq a z with q | q
        · exact n'.2.2 a ha a (s1 a q) rfl
        · exact q (List.mem_append_left _ ha)
    · rcases List.mem_append.mp ha with z | z
      · exact .inl ⟨List.mem_append_left _ z, fun c => n'.2.2 a z a (s1 a c) rfl⟩
      · exact (s2 a z).imp_left fun q => ⟨List.mem_append_right _ q.1, q.2⟩
theorem RF.lens : ∀ {ms : List Md} {xs : List (Str × V)} {ds : List (Str × D)} {fp : List Addr} {j : Nat} {m : Md} {k k' : Str} {x : V} {d : D}, RF K G H ms xs ds fp → fp.Nodup → ms[j]? = some m → xs[j]? = some (k, x) → ds[j]? = some (k', d) →
    ∃ fq, R K G H m x d fq ∧ fq.Nodup ∧ (∀ a ∈ fq, a ∈ fp) ∧ ∀ (G' H' : Hp) (d' : D) (fq' : List Addr), Ex G G' → (∀ a ∈ fp, a ∉ fq → H' a = H a) → R K G' H' m x d' fq' → fq'.Nodup → (∀ a ∈ fq', a ∈ fq ∨ a ∉ fp) →
      ∃ fr, RF K G' H' ms xs (ds.modify j fun y => (y.1, d')) fr ∧ fr.Nodup ∧ ∀ a ∈ fr, (a ∈ fp ∧ a ∉ fq) ∨ a ∈ fq'
  | _, _, _, _, _, _, _, _, _, _, .nil, _, h, _, _ => by simp at h
  | _, _, _, _, 0, _, _, _, _, _, .cons (fp := fp) (fq := fq) r t, n, h0, h, h' => by
    simp at h0 h h'
    obtain ⟨rfl, rfl⟩ := h
    obtain ⟨rfl, rfl⟩ := h'
    subst h0
    have n' := List.nodup_append.mp n
    refine ⟨fp, r, n'.1, fun a ha => List.mem_append_left _ ha, fun G' H' d' fq' e k r' nq hq => ?_⟩
    have kt : ∀ a ∈ fq, ∀ o, H a = some o → H' a = some o := fun a ha o q => by
      rw [k a (List.mem_append_right _ ha) fun z => n'.2.2 a z a ha rfl]; exact q
    refine ⟨fq' ++ fq, by simpa using RF.cons r' (t.keep e kt), List.nodup_append.mpr ⟨nq, n'.2.1, fun a ha b hb c => ?_⟩, fun a ha => ?_⟩
    · subst c
      rcases hq a ha with z | z
      · exact n'.2.2 a z a hb rfl
      · exact z (List.mem_append_right _ hb)
    · rcases List.mem_append.mp ha with z | z
      · exact .inr z
      · exact .inl ⟨List.mem_append_right _ z, fun c => n'.2.2 a c a z rfl⟩
  | _, _, _, _, j + 1, _, _, _, _, _, .cons (fp := fp) (fq := fq) r t, n, h0, h, h' => by
    have n' := List.nodup_append.mp n
    obtain ⟨fs, r1, n1, s1, k1⟩ := RF.lens t n'.2.1 (j := j) (by simpa using h0) (by simpa using h) (by simpa using h')
    refine ⟨fs, r1, n1, fun a ha => List.mem_append_right _ (s1 a ha), fun G' H' d' fq' e k r' nq hq => ?_⟩
    obtain ⟨fr, r2, n2, s2⟩ := k1 G' H' d' fq' e (fun a ha hn => k a (List.mem_append_right _ ha) hn) r' nq (fun a ha => (hq a ha).imp_right fun z c => z (List.mem_append_right _ c))
    have kt : ∀ a ∈ fp, ∀ o, H a = some o → H' a = some o := fun a ha o q => by
      rw [k a (List.mem_append_left _ ha) fun z => n'.2.2 a ha a (s1 a z) rfl]; exact q
    refine ⟨fp ++ fr, by simpa using RF.cons (r.keep e kt) r2, List.nodup_append.mpr ⟨n'.1, n2, fun a ha b hb c => ?_⟩, fun a ha => ?_⟩
    · subst c
      rcases s2 a hb with z | z
      · exact n'.2.2 a ha a z.1 rfl
      · rcases hq a z with q | q
        · exact n'.2.2 a ha a (s1 a q) rfl
        · exact q (List.mem_append_left _ ha)
    · rcases List.mem_append.mp ha with z | z
      · exact .inl ⟨List.mem_append_left _ z, fun c => n'.2.2 a z a (s1 a c) rfl⟩
      · exact (s2 a z).imp_left fun q => ⟨List.mem_append_right _ q.1, q.2⟩
theorem RK.lens : ∀ {m : Md} {xs : List (Key × V)} {ds : List (Key × D)} {fp : List Addr} {j : Nat} {k k' : Key} {x : V} {d : D}, RK K G H m xs ds fp → fp.Nodup → xs[j]? = some (k, x) → ds[j]? = some (k', d) →
    ∃ fq, R K G H m x d fq ∧ fq.Nodup ∧ (∀ a ∈ fq, a ∈ fp) ∧ ∀ (G' H' : Hp) (d' : D) (fq' : List Addr), Ex G G' → (∀ a ∈ fp, a ∉ fq → H' a = H a) → R K G' H' m x d' fq' → fq'.Nodup → (∀ a ∈ fq', a ∈ fq ∨ a ∉ fp) →
      ∃ fr, RK K G' H' m xs (ds.modify j fun y => (y.1, d')) fr ∧ fr.Nodup ∧ ∀ a ∈ fr, (a ∈ fp ∧ a ∉ fq) ∨ a ∈ fq'
  | _, _, _, _, _, _, _, _, _, .nil, _, h, _ => by simp at h
  | _, _, _, _, 0, _, _, _, _, .cons (fp := fp) (fq := fq) r t, n, h, h' => by
    simp at h h'
    obtain ⟨rfl, rfl⟩ := h
    obtain ⟨rfl, rfl⟩ := h'
    have n' := List.nodup_append.mp n
    refine ⟨fp, r, n'.1, fun a ha => List.mem_append_left _ ha, fun G' H' d' fq' e k r' nq hq => ?_⟩
    have kt : ∀ a ∈ fq, ∀ o, H a = some o → H' a = some o := fun a ha o q => by
      rw [k a (List.mem_append_right _ ha) fun z => n'.2.2 a z a ha rfl]; exact q
    refine ⟨fq' ++ fq, by simpa using RK.cons r' (t.keep e kt), List.nodup_append.mpr ⟨nq, n'.2.1, fun a ha b hb c => ?_⟩, fun a ha => ?_⟩
    · subst c
      rcases hq a ha with z | z
      · exact n'.2.2 a z a hb rfl
      · exact z (List.mem_append_right _ hb)
    · rcases List.mem_append.mp ha with z | z
      · exact .inr z
      · exact .inl ⟨List.mem_append_right _ z, fun c => n'.2.2 a c a z rfl⟩
  | _, _, _, _, j + 1, _, _, _, _, .cons (fp := fp) (fq := fq) r t, n, h, h' => by
    have n' := List.nodup_append.mp n
    obtain ⟨fs, r1, n1, s1, k1⟩ := RK.lens t n'.2.1 (j := j) (by simpa using h) (by simpa using h')
    refine ⟨fs, r1, n1, fun a ha => List.mem_append_right _ (s1 a ha), fun G' H' d' fq' e k r' nq hq => ?_⟩
    obtain ⟨fr, r2, n2, s2⟩ := k1 G' H' d' fq' e (fun a ha hn => k a (List.mem_append_right _ ha) hn) r' nq (fun a ha => (hq a ha).imp_right fun z c => z (List.mem_append_right _ c))
    have kt : ∀ a ∈ fp, ∀ o, H a = some o → H' a = some o := fun a ha o q => by
      rw [k a (List.mem_append_left _ ha) fun z => n'.2.2 a ha a (s1 a z) rfl]; exact q
    refine ⟨fp ++ fr, by simpa using RK.cons (r.keep e kt) r2, List.nodup_append.mpr ⟨n'.1, n2, fun a ha b hb c => ?_⟩, fun a ha => ?_⟩
    · subst c
      rcases s2 a hb with z | z
      · exact n'.2.2 a ha a z.1 rfl
      · rcases hq a z with q | q
        · exact n'.2.2 a ha a (s1 a q) rfl
        · exact q (List.mem_append_left _ ha)
    · rcases List.mem_append.mp ha with z | z
      · exact .inl ⟨List.mem_append_left _ z, fun c => n'.2.2 a z a (s1 a c) rfl⟩
      · exact (s2 a z).imp_left fun q => ⟨List.mem_append_right _ q.1, q.2⟩
theorem R.lens : ∀ (xt : Ex G H) {p : List Nat} {m0 m : Md} {v0 v : V} {d0 d : D} {fp : List Addr}, R K G H m0 v0 d0 fp → fp.Nodup → Rch H v0 p v → mAt m0 p = some m → dAt d0 p = some d →
    ∃ fq, R K G H m v d fq ∧ fq.Nodup ∧ (∀ a ∈ fq, a ∈ fp) ∧ ∀ (G' H' : Hp) (d' : D) (fq' : List Addr), Ex G G' → (∀ a ∈ fp, a ∉ fq → H' a = H a) → R K G' H' m v d' fq' → fq'.Nodup → (∀ a ∈ fq', a ∈ fq ∨ a ∉ fp) →
      ∃ fr, R K G' H' m0 v0 (dSet d0 p d') fr ∧ fr.Nodup ∧ ∀ a ∈ fr, (a ∈ fp ∧ a ∉ fq) ∨ a ∈ fq'
  | xt, [], _, _, _, _, _, _, _, r, n, c, e1, e2 => by
    cases c
    cases e1; cases e2
    exact ⟨_, r, n, fun _ h => h, fun G' H' d' fq' _ _ r' nq _ => ⟨fq', r', nq, fun _ h => .inr h⟩⟩
  | xt, j :: p, m0, m, v0, v, d0, d, fp, r, n, c, e1, e2 => by
    cases c with
    | @lst a _ _ _ _ _ h i t =>
      cases r with
      | F h => simp [mAt, mKid] at e1
      | P h => simp [mAt, mKid] at e1
      | K h t => rename_i h' _ _ _; rw [h] at h'; cases h'
      | N h' t' => rw [h] at h'; cases h'
      | M h' t' => rw [h] at h'; cases h'
      | O h' n' t' => rw [h] at h'; cases h'
      | T h' t' => have h' := xt _ _ h'; rw [h] at h'; cases h'
      | A h' t' =>
        rw [h] at h'; cases h'
        simp only [mAt, mKid] at e1
        simp only [dAt, dKid] at e2
        have nn := List.nodup_cons.mp n
        split at e1
        · rename_i m1 em
          split at e2
          · rename_i d1 ed
            obtain ⟨fq, r1, n1, s1, k1⟩ := RS.lens t' nn.2 em i ed
            obtain ⟨fs, r2, n2, s2, k2⟩ := R.lens xt r1 n1 t e1 e2
            refine ⟨fs, r2, n2, fun b hb => List.mem_cons_of_mem _ (s1 b (s2 b hb)), fun G' H' d' fq' e k r' nq hq => ?_⟩
            obtain ⟨fr, r3, n3, s3⟩ := k2 G' H' d' fq' e (fun b hb hn => k b (List.mem_cons_of_mem _ (s1 b hb)) hn) r' nq (fun b hb => (hq b hb).imp_right fun z c => z (List.mem_cons_of_mem _ (s1 b c)))
            obtain ⟨ft, r4, n4, s4⟩ := k1 G' H' _ fr e (fun b hb hn => k b (List.mem_cons_of_mem _ hb) fun z => hn (s2 b z)) r3 n3 (fun b hb => by
              rcases s3 b hb with z | z
              · exact .inl z.1
              · rcases hq b z with q | q
                · exact .inl (s2 b q)
                · exact .inr fun c => q (List.mem_cons_of_mem _ c))
            have ha : H' a = H a := k a List.mem_cons_self fun z => nn.1 (s1 a (s2 a z))
            refine ⟨a :: ft, ?_, List.nodup_cons.mpr ⟨fun z => ?_, n4⟩, fun b hb => ?_⟩
            · simp only [dSet, dKid, ed, setKid]
              exact .A (by rw [ha]; exact h) r4
            · rcases s4 a z with q | q
              · exact nn.1 q.1
              · rcases s3 a q with q | q
                · exact nn.1 (s1 a q.1)
                · rcases hq a q with q | q
                  · exact nn.1 (s1 a (s2 a q))
                  · exact q List.mem_cons_self
            · rcases List.mem_cons.mp hb with rfl | hb
              · exact .inl ⟨List.mem_cons_self, fun z => nn.1 (s1 _ (s2 _ z))⟩
              · rcases s4 b hb with q | q
                · exact .inl ⟨List.mem_cons_of_mem _ q.1, fun z => q.2 (s2 b z)⟩
                · exact (s3 b q).imp_left fun q => ⟨List.mem_cons_of_mem _ (s1 b q.1), q.2⟩
          · cases e2
        · cases e1
      | L h' t' =>
        rw [h] at h'; cases h'
        simp only [mAt, mKid] at e1
        simp only [dAt, dKid] at e2
        have nn := List.nodup_cons.mp n
        split at e2
        · rename_i d1 ed
          obtain ⟨fq, r1, n1, s1, k1⟩ := RA.lens t' nn.2 i ed
          obtain ⟨fs, r2, n2, s2, k2⟩ := R.lens xt r1 n1 t e1 e2
          refine ⟨fs, r2, n2, fun b hb => List.mem_cons_of_mem _ (s1 b (s2 b hb)), fun G' H' d' fq' e k r' nq hq => ?_⟩
          obtain ⟨fr, r3, n3, s3⟩ := k2 G' H' d' fq' e (fun b hb hn => k b (List.mem_cons_of_mem _ (s1 b hb)) hn) r' nq (fun b hb => (hq b hb).imp_right fun z c => z (List.mem_cons_of_mem _ (s1 b c)))
          obtain ⟨ft, r4, n4, s4⟩ := k1 G' H' _ fr e (fun b hb hn => k b (List.mem_cons_of_mem _ hb) fun z => hn (s2 b z)) r3 n3 (fun b hb => by
            rcases s3 b hb with z | z
            · exact .inl z.1
            · rcases hq b z with q | q
              · exact .inl (s2 b q)
              · exact .inr fun c => q (List.mem_cons_of_mem _ c))
          have ha : H' a = H a := k a List.mem_cons_self fun z => nn.1 (s1 a (s2 a z))
          refine ⟨a :: ft, ?_, List.nodup_cons.mpr ⟨fun z => ?_, n4⟩, fun b hb => ?_⟩
          · simp only [dSet, dKid, ed, setKid]
            exact .L (by rw [ha]; exact h) r4
          · rcases s4 a z with q | q
            · exact nn.1 q.1
            · rcases s3 a q with q | q
              · exact nn.1 (s1 a q.1)
              · rcases hq a q with q | q
                · exact nn.1 (s1 a (s2 a q))
                · exact q List.mem_cons_self
          · rcases List.mem_cons.mp hb with rfl | hb
            · exact .inl ⟨List.mem_cons_self, fun z => nn.1 (s1 _ (s2 _ z))⟩
            · rcases s4 b hb with q | q
              · exact .inl ⟨List.mem_cons_of_mem _ q.1, fun z => q.2 (s2 b z)⟩
              · exact (s3 b q).imp_left fun q => ⟨List.mem_cons_of_mem _ (s1 b q.1), q.2⟩
        · cases e2
    | @ins a _ _ _ _ _ _ _ _ h i t =>
      cases r with
      | F h => simp [mAt, mKid] at e1
      | P h => simp [mAt, mKid] at e1
      | K h t => rename_i h' _ _ _; rw [h] at h'; cases h'
      | N h' t' => rw [h] at h'; cases h'
      | M h' t' => rw [h] at h'; cases h'
      | L h' t' => rw [h] at h'; cases h'
      | T h' t' => have h' := xt _ _ h'; rw [h] at h'; cases h'
      | A h' t' => rw [h] at h'; cases h'
      | O h' n' t' =>
        rw [h] at h'; cases h'
        simp only [mAt, mKid] at e1
        simp only [dAt, dKid] at e2
        have nn := List.nodup_cons.mp n
        split at e1
        · rename_i m1 em
          split at e2
          · rename_i d1 ed
            have ed0 := ed
            split at ed
            · rename_i y ey
              cases ed
              obtain ⟨fq, r1, n1, s1, k1⟩ := RF.lens t' nn.2 em i (show _ = some (y.1, y.2) from ey)
              obtain ⟨fs, r2, n2, s2, k2⟩ := R.lens xt r1 n1 t e1 e2
              refine ⟨fs, r2, n2, fun b hb => List.mem_cons_of_mem _ (s1 b (s2 b hb)), fun G' H' d' fq' e k r' nq hq => ?_⟩
              obtain ⟨fr, r3, n3, s3⟩ := k2 G' H' d' fq' e (fun b hb hn => k b (List.mem_cons_of_mem _ (s1 b hb)) hn) r' nq (fun b hb => (hq b hb).imp_right fun z c => z (List.mem_cons_of_mem _ (s1 b c)))
              obtain ⟨ft, r4, n4, s4⟩ := k1 G' H' _ fr e (fun b hb hn => k b (List.mem_cons_of_mem _ hb) fun z => hn (s2 b z)) r3 n3 (fun b hb => by
                rcases s3 b hb with z | z
                · exact .inl z.1
                · rcases hq b z with q | q
                  · exact .inl (s2 b q)
                  · exact .inr fun c => q (List.mem_cons_of_mem _ c))
              have ha : H' a = H a := k a List.mem_cons_self fun z => nn.1 (s1 a (s2 a z))
              refine ⟨a :: ft, ?_, List.nodup_cons.mpr ⟨fun z => ?_, n4⟩, fun b hb => ?_⟩
              · simp only [dSet, dKid, ed0, setKid]
                exact .O (by rw [ha]; exact h) (by rw [names_mod]; exact n') r4
              · rcases s4 a z with q | q
                · exact nn.1 q.1
                · rcases s3 a q with q | q
                  · exact nn.1 (s1 a q.1)
                  · rcases hq a q with q | q
                    · exact nn.1 (s1 a (s2 a q))
                    · exact q List.mem_cons_self
              · rcases List.mem_cons.mp hb with rfl | hb
                · exact .inl ⟨List.mem_cons_self, fun z => nn.1 (s1 _ (s2 _ z))⟩
                · rcases s4 b hb with q | q
                  · exact .inl ⟨List.mem_cons_of_mem _ q.1, fun z => q.2 (s2 b z)⟩
                  · exact (s3 b q).imp_left fun q => ⟨List.mem_cons_of_mem _ (s1 b q.1), q.2⟩
            · cases ed
          · cases e2
        · cases e1
    | @dK a _ _ _ _ _ _ h i t =>
      cases r with
      | F h => simp [mAt, mKid] at e1
      | P h => simp [mAt, mKid] at e1
      | K h t => simp [mAt, mKid] at e1
      | N h t => simp [mAt, mKid] at e1
      | O h' n' t' => rw [h] at h'; cases h'
      | L h' t' => rw [h] at h'; cases h'
      | T h' t' => have h' := xt _ _ h'; rw [h] at h'; cases h'
      | A h' t' => rw [h] at h'; cases h'
      | M h' t' =>
        rw [h] at h'; cases h'
        simp only [mAt, mKid] at e1
        simp only [dAt, dKid] at e2
        have nn := List.nodup_cons.mp n
        split at e2
        · rename_i d1 ed
          have ed0 := ed
          split at ed
          · rename_i y ey
            cases ed
            obtain ⟨fq, r1, n1, s1, k1⟩ := RK.lens t' nn.2 i (show _ = some (y.1, y.2) from ey)
            obtain ⟨fs, r2, n2, s2, k2⟩ := R.lens xt r1 n1 t e1 e2
            refine ⟨fs, r2, n2, fun b hb => List.mem_cons_of_mem _ (s1 b (s2 b hb)), fun G' H' d' fq' e k r' nq hq => ?_⟩
            obtain ⟨fr, r3, n3, s3⟩ := k2 G' H' d' fq' e (fun b hb hn => k b (List.mem_cons_of_mem _ (s1 b hb)) hn) r' nq (fun b hb => (hq b hb).imp_right fun z c => z (List.mem_cons_of_mem _ (s1 b c)))
            obtain ⟨ft, r4, n4, s4⟩ := k1 G' H' _ fr e (fun b hb hn => k b (List.mem_cons_of_mem _ hb) fun z => hn (s2 b z)) r3 n3 (fun b hb => by
              rcases s3 b hb with z | z
              · exact .inl z.1
              · rcases hq b z with q | q
                · exact .inl (s2 b q)
                · exact .inr fun c => q (List.mem_cons_of_mem _ c))
            have ha : H' a = H a := k a List.mem_cons_self fun z => nn.1 (s1 a (s2 a z))
            refine ⟨a :: ft, ?_, List.nodup_cons.mpr ⟨fun z => ?_, n4⟩, fun b hb => ?_⟩
            · simp only [dSet, dKid, ed0, setKid]
              exact .M (by rw [ha]; exact h) r4
            · rcases s4 a z with q | q
              · exact nn.1 q.1
              · rcases s3 a q with q | q
                · exact nn.1 (s1 a q.1)
                · rcases hq a q with q | q
                  · exact nn.1 (s1 a (s2 a q))
                  · exact q List.mem_cons_self
            · rcases List.mem_cons.mp hb with rfl | hb
              · exact .inl ⟨List.mem_cons_self, fun z => nn.1 (s1 _ (s2 _ z))⟩
              · rcases s4 b hb with q | q
                · exact .inl ⟨List.mem_cons_of_mem _ q.1, fun z => q.2 (s2 b z)⟩
                · exact (s3 b q).imp_left fun q => ⟨List.mem_cons_of_mem _ (s1 b q.1), q.2⟩
          · cases ed
        · cases e2
    | @tup a _ _ _ _ _ h i t =>
      cases r with
      | F h => simp [mAt, mKid] at e1
      | P h => simp [mAt, mKid] at e1
      | K h t => rename_i h' _ _ _; rw [h] at h'; cases h'
      | N h' t' => rw [h] at h'; cases h'
      | M h' t' => rw [h] at h'; cases h'
      | L h' t' => rw [h] at h'; cases h'
      | O h' n' t' => rw [h] at h'; cases h'
      | A h' t' => rw [h] at h'; cases h'
      | T h' t' =>
        have hx := xt _ _ h'
        rw [h] at hx; cases hx
        simp only [mAt, mKid] at e1
        simp only [dAt, dKid] at e2
        split at e1
        · rename_i m1 em
          split at e2
          · rename_i d1 ed
            obtain ⟨fq, r1, n1, s1, k1⟩ := RS.lens t' n em i ed
            obtain ⟨fs, r2, n2, s2, k2⟩ := R.lens xt r1 n1 t e1 e2
            refine ⟨fs, r2, n2, fun b hb => s1 b (s2 b hb), fun G' H' d' fq' e k r' nq hq => ?_⟩
            obtain ⟨fr, r3, n3, s3⟩ := k2 G' H' d' fq' e (fun b hb hn => k b (s1 b hb) hn) r' nq (fun b hb => (hq b hb).imp_right fun z c => z (s1 b c))
            obtain ⟨ft, r4, n4, s4⟩ := k1 G' H' _ fr e (fun b hb hn => k b hb fun z => hn (s2 b z)) r3 n3 (fun b hb => by
              rcases s3 b hb with z | z
              · exact .inl z.1
              · rcases hq b z with q | q
                · exact .inl (s2 b q)
                · exact .inr q)
            refine ⟨ft, ?_, n4, fun b hb => ?_⟩
            · simp only [dSet, dKid, ed, setKid]
              exact .T (e _ _ h') r4
            · rcases s4 b hb with q | q
              · exact .inl ⟨q.1, fun z => q.2 (s2 b z)⟩
              · exact (s3 b q).imp_left fun q => ⟨s1 b q.1, q.2⟩
          · cases e2
        · cases e1
end
end VL

namespace VL
open PySem PySem.Spec PyProof.Rows L2
/-! ### the promise of a def -/
structure Pf where
  ok : Kd × D → List D → Prop
  ex : Addr → List (Str × D) → List D → Prop
abbrev DF := List D → Pf → Prop
def zr : List Md → List D → Rho
  | m :: ms, d :: ds => some (m, d) :: zr ms ds
  | _, _ => []
def retK : Kd → Bool
  | .bor _ _ _ => false
  | _ => true
/-- ms: how the parameters are held ahead, ms' behind: F frozen, P m the caller's own -/
def spV (K : PySem.W.Frag) (ms ms' : List Md) (Wf : DF) : Sp := fun vs H Q E =>
  ∃ (S : Sta) (ds : List D) (P : Pf), S.H = H ∧ S.σ = vs.map some ∧ S.pin = (fun i => vs[i]?) ∧ vs.length = ms.length ∧ ds.length = ms.length ∧ S.ρ = zr ms ds ∧ S.ok K ∧ Wf ds P ∧
    (∀ x ds' (T : Sta), P.ok x ds' → ds'.length = ms'.length → T.σ = vs.map some → T.ρ = zr ms' ds' → T.ok K → S.to T → retK x.1 = true → ∀ v : V, Has K S T x.1 v x.2 → Q v T.H) ∧
    (∀ C fl ds' (T : Sta), P.ex C fl ds' → ds'.length = ms'.length → T.σ = vs.map some → T.ρ = zr ms' ds' → T.ok K → S.to T → ∀ dd : Option Addr, XD K T.G T.H dd fl → E (.ref C) dd T.H)
def finK : List Md → List D → Rho → (List D → Prop) → Prop
  | [], _, _, q => q []
  | .P m :: ms, _ :: ds, some (.P m', d) :: ρ, q => m' = m ∧ finK ms ds ρ fun r => q (d :: r)
  | .F :: ms, d :: ds, _ :: ρ, q => finK ms ds ρ fun r => q (d :: r)
  | _, _, _, _ => False
def mOk : List Md → List Md → Bool
  | [], [] => true
  | .F :: ms, .F :: ms' => mOk ms ms'
  | .P _ :: ms, .P _ :: ms' => mOk ms ms'
  | _, _ => false
def endsOf (ms' : List Md) (ds : List D) (P : Pf) : En where
  nx := fun ρ => finK ms' ds ρ fun ds' => P.ok (.fz, .non) ds'
  rt := fun x ρ => retK x.1 = true ∧ finK ms' ds ρ fun ds' => P.ok x ds'
  bk := fun _ => False
  ct := fun _ => False
  ex := fun C fl ρ => finK ms' ds ρ fun ds' => P.ex C fl ds'
section
variable {K : PySem.W.Frag} {W : WX} {G G' H H' H0 : Hp} {σ : L2.St} {ρ : Rho} {f f' : Own} {pin : Nat → Option V} {X : Cx} {S S0 S1 T T1 T2 U : Sta} {E : En} {Z : Ends}
theorem mOk_len : ∀ {ms ms' : List Md}, mOk ms ms' = true → ms'.length = ms.length
  | [], [], _ => rfl
  | .F :: ms, .F :: ms', h => by simp [mOk_len (ms := ms) (ms' := ms') h]
  | .P _ :: ms, .P _ :: ms', h => by simp [mOk_len (ms := ms) (ms' := ms') h]
theorem zr_get : ∀ {ms : List Md} {ds : List D} {k : Nat} {m : Md} {d : D}, (zr ms ds)[k]? = some (some (m, d)) ↔ ms[k]? = some m ∧ ds[k]? = some d
  | [], _, k, m, d => by simp [zr]
  | _ :: _, [], k, m, d => by simp [zr]
  | m' :: ms, d' :: ds, 0, m, d => by simp [zr]
  | m' :: ms, d' :: ds, k + 1, m, d => by simp [zr]; exact zr_get
theorem zr_len : ∀ {ms : List Md} {ds : List D}, ds.length = ms.length → (zr ms ds).length = ms.length
  | [], [], _ => rfl
  | _ :: ms, _ :: ds, h => by simp [zr, zr_len (ms := ms) (ds := ds) (by simpa using h)]
  | [], _ :: _, h => by simp at h
  | _ :: _, [], h => by simp at h
theorem finK_of : ∀ {ms ms' : List Md} {ds : List D} {ρ : Rho} {q : List D → Prop}, mOk ms ms' = true → finK ms' ds ρ q → ∃ ds', q ds' ∧ ds'.length = ms'.length ∧
    ∀ (k : Nat) (m : Md) (d : D), ms'[k]? = some m → ds'[k]? = some d → (m = .F ∧ ms[k]? = some .F ∧ ds[k]? = some d) ∨ (∃ m1, m = .P m1 ∧ ρ[k]? = some (some (.P m1, d)))
  | [], [], _, _, q, _, h => ⟨[], by simpa [finK] using h, rfl, by simp⟩
  | .F :: ms, .F :: ms', d :: ds, _ :: ρ, q, ho, h => by
    obtain ⟨ds', h1, h2, h3⟩ := finK_of (ms := ms) (ms' := ms') ho (by simpa [finK] using h)
    refine ⟨d :: ds', h1, by simp [h2], fun k m d' e1 e2 => ?_⟩
    cases k with
    | zero => simp at e1 e2; subst e1; subst e2; exact .inl ⟨rfl, rfl, rfl⟩
    | succ k => simpa using h3 k m d' (by simpa using e1) (by simpa using e2)
  | .P m0 :: ms, .P m1 :: ms', _ :: ds, some (.P m2, d) :: ρ, q, ho, h => by
    simp only [finK] at h
    obtain ⟨rfl, h⟩ := h
    obtain ⟨ds', h1, h2, h3⟩ := finK_of (ms := ms) (ms' := ms') ho h
    refine ⟨d :: ds', h1, by simp [h2], fun k m d' e1 e2 => ?_⟩
    cases k with
    | zero => simp at e1 e2; subst e1; subst e2; exact .inr ⟨_, rfl, rfl⟩
    | succ k => simpa using h3 k m d' (by simpa using e1) (by simpa using e2)
/-- the parameters' state behind a body -/
def parF (ms : List Md) (f : Own) : Own := fun k => match ms[k]? with
  | some (.P _) => f k
  | _ => []
theorem parF_sub {ms : List Md} {f : Own} {k : Nat} {a : Addr} (h : a ∈ parF ms f k) : a ∈ f k := by
  unfold parF at h
  split at h
  · exact h
  · cases h
theorem par_ok {ms ms' : List Md} {ds ds' : List D} {vs : List V} (hm : mOk ms ms' = true) (hl : vs.length = ms.length) (hS : S.ok K) (hσ : ∀ (k : Nat) (v : V), vs[k]? = some v → S.σ[k]? = some (some v)) (hρ : ∀ (k : Nat) (m : Md) (d : D), ms[k]? = some m → ds[k]? = some d → S.ρ[k]? = some (some (m, d)))
    (hp : S.pin = fun i => vs[i]?) (hT : T.ok K) (t : S.to T) (h2 : ds'.length = ms'.length)
    (h3 : ∀ (k : Nat) (m : Md) (d : D), ms'[k]? = some m → ds'[k]? = some d → (m = .F ∧ ms[k]? = some .F ∧ ds[k]? = some d) ∨ (∃ m1, m = .P m1 ∧ T.ρ[k]? = some (some (.P m1, d)))) :
    Sx K T.pin T.G T.H (vs.map some) (zr ms' ds') (parF ms' T.f) where
  ext := hT.ext
  len := by rw [zr_len h2, mOk_len hm, List.length_map, hl]
  slot := fun k m d e => by
    obtain ⟨e1, e2⟩ := zr_get.mp e
    have hk : k < vs.length := by
      have := (List.getElem?_eq_some_iff.mp e1).1
      rw [mOk_len hm] at this; omega
    have hv : vs[k]? = some vs[k] := List.getElem?_eq_getElem hk
    refine ⟨vs[k], by rw [List.getElem?_map, hv]; rfl, ?_⟩
    rcases h3 k m d e1 e2 with ⟨rfl, q1, q2⟩ | ⟨m1, rfl, q⟩
    · have : parF ms' T.f k = [] := by unfold parF; rw [e1]
      rw [this]
      obtain ⟨v, hv', r⟩ := hS.slot k _ _ (hρ k _ _ q1 q2)
      rw [hσ k _ hv] at hv'; cases hv'
      exact .F (r.F_inv.1.mono t.stp.gext)
    · have : parF ms' T.f k = T.f k := by unfold parF; rw [e1]
      rw [this]
      obtain ⟨v, hv', r⟩ := hT.slot k _ _ q
      obtain ⟨u, hu, hu'⟩ := hT.pins k _ _ q
      rw [t.pin, hp] at hu
      have hu2 : vs[k]? = some u := hu
      rw [hv] at hu2; cases hu2
      rw [hv'] at hu'; cases hu'
      exact r
  emp := fun k e => by
    unfold parF
    split
    · rename_i m1 e1
      have hk : k < ds'.length := by rw [h2]; exact (List.getElem?_eq_some_iff.mp e1).1
      exact absurd (zr_get.mpr ⟨e1, List.getElem?_eq_getElem hk⟩) (e _ _)
    · rfl
  nd := fun k => by
    unfold parF
    split
    · exact hT.nd k
    · exact List.nodup_nil
  dj := fun i j a h h' => hT.dj i j a (parF_sub h) (parF_sub h')
  out := fun i a h => hT.out i a (parF_sub h)
  pins := fun k m d e => by
    obtain ⟨e1, e2⟩ := zr_get.mp e
    rcases h3 k _ d e1 e2 with ⟨q, _⟩ | ⟨m1, q, q'⟩
    · cases q
    · cases q
      obtain ⟨u, hu, hu'⟩ := hT.pins k _ _ q'
      refine ⟨u, hu, ?_⟩
      rw [t.pin, hp] at hu
      have hu2 : vs[k]? = some u := hu
      rw [List.getElem?_map, hu2]; rfl
theorem Has.par {ms' : List Md} {kd : Kd} {v : V} {d : D} {σ' : L2.St} {ρ' : Rho} (hk : retK kd = true) (h : Has K S T kd v d) : Has K S { T with σ := σ', ρ := ρ', f := parF ms' T.f } kd v d := by
  cases kd with
  | fz => exact h
  | bor i p m => cases hk
  | new m =>
    obtain ⟨fp, r, n, k⟩ := h
    exact ⟨fp, r, n, fun a ha => ⟨(k a ha).1, fun ⟨i, z⟩ => (k a ha).2.1 ⟨i, parF_sub z⟩, (k a ha).2.2⟩⟩
theorem Sta.to.par {ms' : List Md} {σ' : L2.St} {ρ' : Rho} (t : S.to T) : S.to { T with σ := σ', ρ := ρ', f := parF ms' T.f } where
  stp := { gext := t.stp.gext, keep := t.stp.keep, gold := t.stp.gold, fnew := fun a ⟨i, h⟩ => t.stp.fnew a ⟨i, parF_sub h⟩, trk := t.stp.trk }
  pin := t.pin
theorem rep_none {n k : Nat} {x : V} : (List.replicate n (none : Option V))[k]? ≠ some (some x) := by
  intro h
  rw [List.getElem?_replicate] at h
  split at h <;> cases h
theorem rep_noneR {n k : Nat} {x : Md × D} : (List.replicate n (none : Option (Md × D)))[k]? ≠ some (some x) := by
  intro h
  rw [List.getElem?_replicate] at h
  split at h <;> cases h
/-- the state at a body's start -/
theorem start_ok {N : List Str} {vs : List V} {ms : List Md} {ds : List D} (hl : vs.length = ms.length) (hd : ds.length = ms.length) (hN : ms.length ≤ N.length) (hS : S.ok K) (hσ : S.σ = vs.map some) (hρ : S.ρ = zr ms ds) :
    Sx K S.pin S.G S.H (L2.start N vs) (zr ms ds ++ List.replicate (N.length - ms.length) none) S.f := by
  have hzl : (zr ms ds).length = ms.length := zr_len hd
  have get : ∀ k m d, (zr ms ds ++ List.replicate (N.length - ms.length) none)[k]? = some (some (m, d)) → (zr ms ds)[k]? = some (some (m, d)) := fun k m d e => by
    by_cases c : k < (zr ms ds).length
    · rw [List.getElem?_append_left c] at e; exact e
    · rw [List.getElem?_append_right (by omega)] at e
      exact absurd e rep_noneR
  have put : ∀ k v, (vs.map some)[k]? = some (some v) → (L2.start N vs)[k]? = some (some v) := fun k v e => by
    unfold L2.start
    rw [List.getElem?_append_left (List.getElem?_eq_some_iff.mp e).1]
    exact e
  exact {
    ext := hS.ext
    len := by unfold L2.start; simp [hzl, hl]
    slot := fun k m d e => by
      obtain ⟨v, h1, r⟩ := hS.slot k m d (by rw [hρ]; exact get k m d e)
      exact ⟨v, put k v (by rw [← hσ]; exact h1), r⟩
    emp := fun k e => hS.emp k fun m d q => e m d (by
      rw [hρ] at q
      rw [List.getElem?_append_left (List.getElem?_eq_some_iff.mp q).1]; exact q)
    nd := hS.nd
    dj := hS.dj
    out := hS.out
    pins := fun k m d e => by
      obtain ⟨v, h1, h2⟩ := hS.pins k m d (by rw [hρ]; exact get k _ d e)
      exact ⟨v, h1, put k v (by rw [← hσ]; exact h2)⟩ }
variable {P : Program} {w : World} {mg : Str → Option Value} {base : Heap}
theorem fn_ok {x qual : Str} {st : Stmt} {fa : Addr} {fd : FuncData} {N ps : List Str} {k : Nat} {ms ms' : List Md} {Wf : DF} {w' : DS} (F : Fun K x qual st fa fd) (sc : FnScope N ps (defScope st)) (hm : ms.length = ps.length) (ho : mOk ms ms' = true) (hN : ms.length ≤ N.length)
    (body : ∀ (cdv : Value) (A : Around) (outer : List Env) (s : Shared) (H : Hp) (E : XK), Room k (A.deeper (envOfC qual (defScope st) s.heap.objs.size fa cdv)) →
      PSs (cxOf (L2.CX P w) P w K mg base N qual (defScope st) fa cdv A outer s H E) (defBody st) (ts K (fun cls d _ H => E cls d H) w'))
    (hw : ∀ ds P, ds.length = ms.length → Wf ds P → w' (endsOf ms' ds P) (zr ms ds ++ List.replicate (N.length - ms.length) none)) :
    FnOk P w K mg base (L2.CX P w) (k + 1) fa fd ps (spV K ms ms' Wf) := by
  refine F.okX sc (fun vs H Q E h => ?_) (fun cdv A outer s H vs Q E hr h => ⟨ts K (fun cls d _ H => E cls d H) w', body cdv A outer s H E hr, ?_⟩)
  · obtain ⟨S, ds, Pf, _, _, _, h, _⟩ := h
    rw [h, hm]
  · obtain ⟨S, ds, Pf, rfl, hσ, hp, hl, hd, hρ, ok, wf, k1, k2⟩ := h
    have sok := start_ok (N := N) hl hd hN ok hσ hρ
    have hσ' : ∀ (k : Nat) (v : V), vs[k]? = some v → (L2.start N vs)[k]? = some (some v) := fun k v e => by
      have e' : (vs.map some)[k]? = some (some v) := by rw [List.getElem?_map, e]; rfl
      unfold L2.start
      rw [List.getElem?_append_left (List.getElem?_eq_some_iff.mp e').1]; exact e'
    have hρ' : ∀ (k : Nat) (m : Md) (d : D), ms[k]? = some m → ds[k]? = some d → (zr ms ds ++ List.replicate (N.length - ms.length) none)[k]? = some (some (m, d)) := fun k m d e1 e2 => by
      have e := zr_get.mpr ⟨e1, e2⟩
      rw [List.getElem?_append_left (List.getElem?_eq_some_iff.mp e).1]; exact e
    have fin : ∀ {q : List D → Prop} (T : Sta), finK ms' ds T.ρ q → T.ok K → (Sta.to { S with σ := L2.start N vs, ρ := zr ms ds ++ List.replicate (N.length - ms.length) none } T) → ∃ ds', q ds' ∧ ds'.length = ms'.length ∧ Sta.ok K { T with σ := vs.map some, ρ := zr ms' ds', f := parF ms' T.f } := fun {q} T hq okT t => by
      obtain ⟨ds', h1, h2, h3⟩ := finK_of ho hq
      exact ⟨ds', h1, h2, par_ok (S := { S with σ := L2.start N vs, ρ := zr ms ds ++ List.replicate (N.length - ms.length) none }) ho hl sok hσ' hρ' hp okT t h2 h3⟩
    refine ⟨{ S with σ := L2.start N vs, ρ := zr ms ds ++ List.replicate (N.length - ms.length) none }, endsOf ms' ds Pf, rfl, rfl, sok, hw ds Pf hd wf, ?_⟩
    refine ⟨fun T e okT t => ?_, fun T e _ _ => e.elim, fun T e _ _ => e.elim, fun x T e okT t v hv => ?_, fun C fl T e okT t dd hd' => ?_⟩
    · obtain ⟨ds', h1, h2, h3⟩ := fin T e okT t
      exact k1 _ ds' _ h1 h2 rfl rfl h3 (Sta.to.par (S := S) ⟨t.stp, t.pin⟩) rfl _ (Has.par (S := S) (T := T) (kd := .fz) rfl .non)
    · obtain ⟨ds', h1, h2, h3⟩ := fin T e.2 okT t
      exact k1 _ ds' _ h1 h2 rfl rfl h3 (Sta.to.par (S := S) ⟨t.stp, t.pin⟩) e.1 _ (Has.par (S := S) e.1 (by
        obtain ⟨kd, d⟩ := x
        cases kd with
        | fz => exact hv
        | bor i p m => cases e.1
        | new m => exact hv))
    · obtain ⟨ds', h1, h2, h3⟩ := fin T e okT t
      exact k2 C fl ds' _ h1 h2 rfl rfl h3 (Sta.to.par (S := S) ⟨t.stp, t.pin⟩) dd hd'
end
end VL

namespace VL
open PySem PySem.Spec PyProof.Rows L2
/-! ### calls of one's own defs -/
def argsOk : List Md → List (Kd × D) → Prop
  | [], [] => True
  | .F :: ms, (.fz, _) :: xs => argsOk ms xs
  | .P m :: ms, (.bor _ _ m', _) :: xs => m' = m ∧ argsOk ms xs
  | _, _ => False
/-- the slots that are lent -/
def borS : List (Kd × D) → List Nat
  | [] => []
  | (.bor i _ _, _) :: xs => i :: borS xs
  | _ :: xs => borS xs
def nodupB : List Nat → Bool
  | [] => true
  | i :: l => !l.contains i && nodupB l
def setAt (ρ : Rho) (i : Nat) (p : List Nat) (d' : D) : Rho := match ρ[i]? with
  | some (some (m, d)) => ρ.set i (some (m, dSet d p d'))
  | _ => ρ
def putBack : List (Kd × D) → List D → Rho → Rho
  | (.bor i p _, _) :: xs, d' :: ds', ρ => putBack xs ds' (setAt ρ i p d')
  | _ :: xs, _ :: ds', ρ => putBack xs ds' ρ
  | _, _, ρ => ρ
section
variable {K : PySem.W.Frag} {W : WX} {G G' H H' H0 : Hp} {σ : L2.St} {ρ : Rho} {f f' : Own} {pin : Nat → Option V} {X : Cx} {S S0 S1 T T1 T2 U : Sta} {E : En} {Z : Ends}
theorem setAt_ne {i j : Nat} {p : List Nat} {d' : D} (h : j ≠ i) : (setAt ρ i p d')[j]? = ρ[j]? := by
  unfold setAt
  split
  · rw [List.getElem?_set_ne (Ne.symm h)]
  · rfl
theorem setAt_eq {i : Nat} {p : List Nat} {d' d0 : D} {m0 : Md} (h : ρ[i]? = some (some (m0, d0))) : (setAt ρ i p d')[i]? = some (some (m0, dSet d0 p d')) := by
  unfold setAt
  rw [h]
  show (ρ.set i (some (m0, dSet d0 p d')))[i]? = _
  rw [List.getElem?_set_self (List.getElem?_eq_some_iff.mp h).1]
theorem setAt_len {i : Nat} {p : List Nat} {d' : D} : (setAt ρ i p d').length = ρ.length := by
  unfold setAt
  split
  · simp
  · rfl
theorem putBack_len : ∀ {xs : List (Kd × D)} {ds' : List D} {ρ : Rho}, (putBack xs ds' ρ).length = ρ.length
  | [], _, _ => by cases ‹List D› <;> rfl
  | (.fz, _) :: _, [], _ => rfl
  | (.new _, _) :: _, [], _ => rfl
  | (.bor _ _ _, _) :: _, [], _ => rfl
  | (.fz, _) :: xs, d :: ds', ρ => putBack_len (xs := xs)
  | (.new _, _) :: xs, d :: ds', ρ => putBack_len (xs := xs)
  | (.bor i p m, _) :: xs, d :: ds', ρ => by
    show (putBack xs ds' (setAt ρ i p d)).length = _
    rw [putBack_len, setAt_len]
theorem putBack_ne : ∀ {xs : List (Kd × D)} {ds' : List D} {ρ : Rho} {j : Nat}, j ∉ borS xs → (putBack xs ds' ρ)[j]? = ρ[j]?
  | [], _, _, _, _ => by cases ‹List D› <;> rfl
  | (.fz, _) :: _, [], _, _, _ => rfl
  | (.new _, _) :: _, [], _, _, _ => rfl
  | (.bor _ _ _, _) :: _, [], _, _, _ => rfl
  | (.fz, _) :: xs, d :: ds', ρ, j, h => putBack_ne (xs := xs) h
  | (.new _, _) :: xs, d :: ds', ρ, j, h => putBack_ne (xs := xs) h
  | (.bor i p m, _) :: xs, d :: ds', ρ, j, h => by
    show (putBack xs ds' (setAt ρ i p d))[j]? = _
    rw [putBack_ne (fun z => h (List.mem_cons_of_mem _ z)), setAt_ne (fun z : j = i => h (by rw [z]; exact List.mem_cons_self))]
theorem nodupB_cons {i : Nat} {l : List Nat} (h : nodupB (i :: l) = true) : i ∉ l ∧ nodupB l = true := by
  simpa [nodupB] using h
theorem borS_mem : ∀ {xs : List (Kd × D)} {k : Nat} {i : Nat} {p : List Nat} {m : Md} {d : D}, xs[k]? = some (.bor i p m, d) → i ∈ borS xs
  | [], k, _, _, _, _, h => by simp at h
  | (.bor _ _ _, _) :: xs, 0, _, _, _, _, h => by simp at h; obtain ⟨⟨rfl, _⟩, _⟩ := h; exact List.mem_cons_self
  | (.fz, _) :: xs, 0, _, _, _, _, h => by simp at h
  | (.new _, _) :: xs, 0, _, _, _, _, h => by simp at h
  | (.bor _ _ _, _) :: xs, k + 1, _, _, _, _, h => List.mem_cons_of_mem _ (borS_mem (xs := xs) (k := k) (by simpa using h))
  | (.fz, _) :: xs, k + 1, _, _, _, _, h => borS_mem (xs := xs) (k := k) (by simpa using h)
  | (.new _, _) :: xs, k + 1, _, _, _, _, h => borS_mem (xs := xs) (k := k) (by simpa using h)
theorem borS_get : ∀ {xs : List (Kd × D)} {i : Nat}, i ∈ borS xs → ∃ (k : Nat) (p : List Nat) (m : Md) (d : D), xs[k]? = some (.bor i p m, d)
  | [], _, h => by cases h
  | (.bor i p m, d) :: xs, j, h => by
    rcases List.mem_cons.mp h with rfl | h
    · exact ⟨0, p, m, d, rfl⟩
    · obtain ⟨k, q⟩ := borS_get h
      exact ⟨k + 1, by simpa using q⟩
  | (.fz, _) :: xs, j, h => by
    obtain ⟨k, q⟩ := borS_get (xs := xs) h
    exact ⟨k + 1, by simpa using q⟩
  | (.new _, _) :: xs, j, h => by
    obtain ⟨k, q⟩ := borS_get (xs := xs) h
    exact ⟨k + 1, by simpa using q⟩
theorem borS_inj : ∀ {xs : List (Kd × D)} {k k' i : Nat} {p p' : List Nat} {m m' : Md} {d d' : D}, nodupB (borS xs) = true → xs[k]? = some (.bor i p m, d) → xs[k']? = some (.bor i p' m', d') → k = k'
  | [], _, _, _, _, _, _, _, _, _, _, h, _ => by simp at h
  | (.bor j q n, e) :: xs, 0, 0, _, _, _, _, _, _, _, _, _, _ => rfl
  | (.bor j q n, e) :: xs, 0, k' + 1, _, _, _, _, _, _, _, hn, h, h' => by
    simp at h; obtain ⟨⟨rfl, _⟩, _⟩ := h
    exact absurd (borS_mem (xs := xs) (k := k') (by simpa using h')) (nodupB_cons hn).1
  | (.bor j q n, e) :: xs, k + 1, 0, _, _, _, _, _, _, _, hn, h, h' => by
    simp at h'; obtain ⟨⟨rfl, _⟩, _⟩ := h'
    exact absurd (borS_mem (xs := xs) (k := k) (by simpa using h)) (nodupB_cons hn).1
  | (.bor j q n, e) :: xs, k + 1, k' + 1, _, _, _, _, _, _, _, hn, h, h' => congrArg (· + 1) (borS_inj (nodupB_cons hn).2 (by simpa using h) (by simpa using h'))
  | (.fz, e) :: xs, 0, _, _, _, _, _, _, _, _, _, h, _ => by simp at h
  | (.fz, e) :: xs, _ + 1, 0, _, _, _, _, _, _, _, _, _, h => by simp at h
  | (.fz, e) :: xs, k + 1, k' + 1, _, _, _, _, _, _, _, hn, h, h' => congrArg (· + 1) (borS_inj (xs := xs) hn (by simpa using h) (by simpa using h'))
  | (.new _, e) :: xs, 0, _, _, _, _, _, _, _, _, _, h, _ => by simp at h
  | (.new _, e) :: xs, _ + 1, 0, _, _, _, _, _, _, _, _, _, h => by simp at h
  | (.new _, e) :: xs, k + 1, k' + 1, _, _, _, _, _, _, _, hn, h, h' => congrArg (· + 1) (borS_inj (xs := xs) hn (by simpa using h) (by simpa using h'))
theorem putBack_eq : ∀ {xs : List (Kd × D)} {ds' : List D} {ρ : Rho} {k i : Nat} {p : List Nat} {m m0 : Md} {d d' d0 : D}, nodupB (borS xs) = true → xs[k]? = some (.bor i p m, d) → ds'[k]? = some d' → ρ[i]? = some (some (m0, d0)) → (putBack xs ds' ρ)[i]? = some (some (m0, dSet d0 p d'))
  | [], _, _, _, _, _, _, _, _, _, _, _, h, _, _ => by simp at h
  | _ :: _, [], _, _, _, _, _, _, _, _, _, _, _, h, _ => by simp at h
  | (.bor j q n, e) :: xs, d1 :: ds', ρ, 0, _, _, _, _, _, _, _, hn, h, h', h0 => by
    simp at h; obtain ⟨⟨rfl, rfl, rfl⟩, rfl⟩ := h
    simp at h'; subst h'
    show (putBack xs ds' (setAt ρ j q d1))[j]? = _
    rw [putBack_ne (nodupB_cons hn).1, setAt_eq h0]
  | (.bor j q n, e) :: xs, d1 :: ds', ρ, k + 1, i, _, _, _, _, _, _, hn, h, h', h0 => by
    have hi : i ∈ borS xs := borS_mem (xs := xs) (k := k) (by simpa using h)
    show (putBack xs ds' (setAt ρ j q d1))[i]? = _
    exact putBack_eq (nodupB_cons hn).2 (k := k) (by simpa using h) (by simpa using h') (by rw [setAt_ne (fun z : i = j => (nodupB_cons hn).1 (by rw [← z]; exact hi))]; exact h0)
  | (.fz, e) :: xs, d1 :: ds', ρ, 0, _, _, _, _, _, _, _, _, h, _, _ => by simp at h
  | (.fz, e) :: xs, d1 :: ds', ρ, k + 1, i, _, _, _, _, _, _, hn, h, h', h0 => putBack_eq (xs := xs) hn (k := k) (by simpa using h) (by simpa using h') h0
  | (.new _, e) :: xs, d1 :: ds', ρ, 0, _, _, _, _, _, _, _, _, h, _, _ => by simp at h
  | (.new _, e) :: xs, d1 :: ds', ρ, k + 1, i, _, _, _, _, _, _, hn, h, h', h0 => putBack_eq (xs := xs) hn (k := k) (by simpa using h) (by simpa using h') h0
theorem R.unstrip : ∀ {m : Md} {v : V} {d : D} {fp : List Addr}, R K G H m.st v d fp → R K G H m v d fp
  | .F, _, _, _, h => h
  | .L _, _, _, _, h => h
  | .K, _, _, _, h => h
  | .N, _, _, _, h => h
  | .M _, _, _, _, h => h
  | .O _, _, _, _, h => h
  | .T _, _, _, _, h => h
  | .A _, _, _, _, h => h
  | .P m, _, _, _, h => .P (R.unstrip (m := m) h)
theorem HasA.get {vs : List V} {ds : List (Kd × D)} (h : HasA K S0 T vs ds) : ∀ {k : Nat} {x : Kd × D}, ds[k]? = some x → ∃ v, vs[k]? = some v ∧ Has K S0 T x.1 v x.2 := by
  induction h with
  | nil => intro k x e; simp at e
  | cons h t ih =>
    intro k x e
    cases k with
    | zero => simp at e; subst e; exact ⟨_, rfl, h⟩
    | succ k => simpa using ih (by simpa using e)
theorem argsOk_get : ∀ {ms : List Md} {xs : List (Kd × D)}, argsOk ms xs → xs.length = ms.length ∧ ∀ (k : Nat) (m : Md) (x : Kd × D), ms[k]? = some m → xs[k]? = some x → (m = .F ∧ x.1 = .fz) ∨ ∃ i p m1, m = .P m1 ∧ x.1 = .bor i p m1
  | [], [], _ => ⟨rfl, by simp⟩
  | .F :: ms, (.fz, d) :: xs, h => by
    obtain ⟨h1, h2⟩ := argsOk_get (ms := ms) (xs := xs) h
    refine ⟨by simp [h1], fun k m x e e' => ?_⟩
    cases k with
    | zero => simp at e e'; subst e; subst e'; exact .inl ⟨rfl, rfl⟩
    | succ k => exact h2 k m x (by simpa using e) (by simpa using e')
  | .P m0 :: ms, (.bor i p m1, d) :: xs, h => by
    obtain ⟨rfl, h⟩ := h
    obtain ⟨h1, h2⟩ := argsOk_get (ms := ms) (xs := xs) h
    refine ⟨by simp [h1], fun k m x e e' => ?_⟩
    cases k with
    | zero => simp at e e'; subst e; subst e'; exact .inr ⟨i, p, _, rfl, rfl⟩
    | succ k => exact h2 k m x (by simpa using e) (by simpa using e')
/-- what is lent -/
structure Lent (K : PySem.W.Frag) (T : Sta) (i : Nat) (p : List Nat) (m : Md) (v : V) (d : D) (fq : List Addr) : Prop where
  r : R K T.G T.H m v d fq
  nd : fq.Nodup
  sub : ∀ a ∈ fq, a ∈ T.f i
  back : ∃ m0 d0 v0, T.ρ[i]? = some (some (m0, d0)) ∧ T.σ[i]? = some (some v0) ∧ ∀ (G' H' : Hp) (d' : D) (fq' : List Addr), Ex T.G G' → (∀ a ∈ T.f i, a ∉ fq → H' a = T.H a) → R K G' H' m v d' fq' → fq'.Nodup → (∀ a ∈ fq', a ∈ fq ∨ a ∉ T.f i) →
      ∃ fr, R K G' H' m0 v0 (dSet d0 p d') fr ∧ fr.Nodup ∧ ∀ a ∈ fr, (a ∈ T.f i ∧ a ∉ fq) ∨ a ∈ fq'
theorem Has.lent (ok : T.ok K) {i : Nat} {p : List Nat} {m : Md} {v : V} {d : D} (h : Has K S0 T (.bor i p m) v d) : ∃ fq, Lent K T i p m v d fq := by
  obtain ⟨m0, d0, v0, h1, h2, h3, h4, h5⟩ := h
  obtain ⟨v1, g1, r⟩ := ok.slot i m0 d0 h1
  rw [h2] at g1; cases g1
  obtain ⟨fq, r1, n1, s1, k1⟩ := R.lens ok.ext r.strip (ok.nd i) h3 h4 h5
  refine ⟨fq, r1, n1, s1, m0, d0, v0, h1, h2, fun G' H' d' fq' e k r' nq hq => ?_⟩
  obtain ⟨fr, r2, n2, s2⟩ := k1 G' H' d' fq' e k r' nq hq
  exact ⟨fr, r2.unstrip, n2, s2⟩
/-- the callee's state, and the way back -/
theorem call_state {ms : List Md} {xs : List (Kd × D)} {vs : List V} (ok : T.ok K) (h : HasA K S0 T vs xs) (ha : argsOk ms xs) (hn : nodupB (borS xs) = true) :
    ∃ fA : Own, Sx K (fun i => vs[i]?) T.G T.H (vs.map some) (zr ms (xs.map (·.2))) fA ∧ (∀ a, Ow fA a → Ow T.f a) ∧
      ∀ (ds' : List D) (U : Sta), ds'.length = ms.length → U.σ = vs.map some → U.ρ = zr ms ds' → U.ok K → Sta.to ⟨fun i => vs[i]?, T.G, T.H, vs.map some, zr ms (xs.map (·.2)), fA⟩ U →
        ∃ f2 : Own, Sx K T.pin U.G U.H T.σ (putBack xs ds' T.ρ) f2 ∧ T.to ⟨T.pin, U.G, U.H, T.σ, putBack xs ds' T.ρ, f2⟩ ∧ Tch (borS xs) T ⟨T.pin, U.G, U.H, T.σ, putBack xs ds' T.ρ, f2⟩ ∧
          ∀ a, Ow f2 a → ¬ Ow U.f a → (Ow T.f a ∧ ¬ Ow fA a) := by
  obtain ⟨hl, hx⟩ := argsOk_get ha
  have hvl : vs.length = xs.length := h.len
  -- what is lent, by places
  have ex : ∀ k : Nat, ∃ fq : List Addr, (∀ i p m d, xs[k]? = some (.bor i p m, d) → ∃ v, vs[k]? = some v ∧ Lent K T i p m v d fq) ∧ ((∀ i p m d, xs[k]? ≠ some (.bor i p m, d)) → fq = []) := fun k => by
    by_cases c : ∃ i p m d, xs[k]? = some (.bor i p m, d)
    · obtain ⟨i, p, m, d, e⟩ := c
      obtain ⟨v, hv, hh⟩ := h.get e
      obtain ⟨fq, l⟩ := hh.lent ok
      refine ⟨fq, fun i' p' m' d' e' => ?_, fun z => absurd e (z i p m d)⟩
      rw [e] at e'; cases e'
      exact ⟨v, hv, l⟩
    · exact ⟨[], fun i p m d e => absurd ⟨i, p, m, d, e⟩ c, fun _ => rfl⟩
  obtain ⟨fA, hA⟩ := Classical.axiomOfChoice ex
  have own : ∀ k a, a ∈ fA k → ∃ i p m d, xs[k]? = some (.bor i p m, d) ∧ ∃ v, vs[k]? = some v ∧ Lent K T i p m v d (fA k) := fun k a ha => by
    by_cases c : ∃ i p m d, xs[k]? = some (.bor i p m, d)
    · obtain ⟨i, p, m, d, e⟩ := c
      exact ⟨i, p, m, d, e, (hA k).1 i p m d e⟩
    · rw [(hA k).2 fun i p m d e => c ⟨i, p, m, d, e⟩] at ha; cases ha
  have sub : ∀ a, Ow fA a → Ow T.f a := fun a ⟨k, hk⟩ => by
    obtain ⟨i, p, m, d, _, v, _, l⟩ := own k a hk
    exact ⟨i, l.sub a hk⟩
  have lm : (xs.map (·.2)).length = ms.length := by rw [List.length_map, hl]
  have get : ∀ (k : Nat) (m : Md) (d : D), (zr ms (xs.map (·.2)))[k]? = some (some (m, d)) → ∃ x v, ms[k]? = some m ∧ xs[k]? = some x ∧ x.2 = d ∧ vs[k]? = some v ∧ Has K S0 T x.1 v x.2 := fun k m d e => by
    obtain ⟨e1, e2⟩ := zr_get.mp e
    rw [List.getElem?_map] at e2
    cases q : xs[k]? with
    | none => rw [q] at e2; cases e2
    | some x =>
      rw [q] at e2
      obtain ⟨v, hv, hh⟩ := h.get q
      exact ⟨x, v, e1, rfl, by simpa using e2, hv, hh⟩
  have sA : Sx K (fun i => vs[i]?) T.G T.H (vs.map some) (zr ms (xs.map (·.2))) fA := {
    ext := ok.ext
    len := by rw [zr_len lm, List.length_map, hvl, hl]
    slot := fun k m d e => by
      obtain ⟨x, v, e1, e2, e3, hv, hh⟩ := get k m d e
      refine ⟨v, by rw [List.getElem?_map, hv]; rfl, ?_⟩
      obtain ⟨kd, dd⟩ := x
      cases e3
      rcases hx k m _ e1 e2 with ⟨rfl, q⟩ | ⟨i, p, m1, rfl, q⟩
      · cases q
        rw [(hA k).2 fun i p m d z => by rw [e2] at z; cases z]
        exact .F hh
      · cases q
        obtain ⟨v', hv', l⟩ := (hA k).1 _ _ _ _ e2
        rw [hv] at hv'; cases hv'
        exact .P l.r
    emp := fun k e => (hA k).2 fun i p m d z => by
      have hk : k < ms.length := by rw [← hl]; exact (List.getElem?_eq_some_iff.mp z).1
      exact e _ _ (zr_get.mpr ⟨List.getElem?_eq_getElem hk, by rw [List.getElem?_map, z]; rfl⟩)
    nd := fun k => by
      by_cases c : ∃ i p m d, xs[k]? = some (.bor i p m, d)
      · obtain ⟨i, p, m, d, e⟩ := c
        obtain ⟨v, _, l⟩ := (hA k).1 i p m d e
        exact l.nd
      · rw [(hA k).2 fun i p m d e => c ⟨i, p, m, d, e⟩]; exact List.nodup_nil
    dj := fun k k' a ha ha' => by
      obtain ⟨i, p, m, d, e, v, _, l⟩ := own k a ha
      obtain ⟨i', p', m', d', e', v', _, l'⟩ := own k' a ha'
      have q := ok.dj i i' a (l.sub a ha) (l'.sub a ha')
      subst q
      exact borS_inj hn e e'
    out := fun k a ha => ok.outO (sub a ⟨k, ha⟩)
    pins := fun k m d e => by
      obtain ⟨x, v, e1, e2, e3, hv, hh⟩ := get k _ d e
      exact ⟨v, hv, by rw [List.getElem?_map, hv]; rfl⟩ }
  refine ⟨fA, sA, sub, fun ds' U hd hσ hρ okU t => ?_⟩
  have tg : Ex T.G U.G := t.stp.gext
  have keepO : ∀ a o, T.H a = some o → ¬ Ow fA a → U.H a = some o := t.stp.keep
  have newU : ∀ a, Ow U.f a → Ow fA a ∨ T.H a = none := t.stp.fnew
  -- a lent thing as it came back
  have came : ∀ k i p m d, xs[k]? = some (.bor i p m, d) → ∃ fr d' m0 d0 v0, ds'[k]? = some d' ∧ T.ρ[i]? = some (some (m0, d0)) ∧ T.σ[i]? = some (some v0) ∧ R K U.G U.H m0 v0 (dSet d0 p d') fr ∧ fr.Nodup ∧ ∀ a ∈ fr, (a ∈ T.f i ∧ a ∉ fA k) ∨ a ∈ U.f k := fun k i p m d e => by
    obtain ⟨v, hv, l⟩ := (hA k).1 i p m d e
    have hk : k < ds'.length := by rw [hd, ← hl]; exact (List.getElem?_eq_some_iff.mp e).1
    have hk' : k < ms.length := by rw [← hd]; exact hk
    have hm : ms[k]? = some ms[k] := List.getElem?_eq_getElem hk'
    have hdk : ds'[k]? = some ds'[k] := List.getElem?_eq_getElem hk
    obtain ⟨m0, d0, v0, b1, b2, b3⟩ := l.back
    rcases hx k _ _ hm e with ⟨_, q⟩ | ⟨i', p', m1, q0, q⟩
    · cases q
    · cases q
      obtain ⟨v', hv', r'⟩ := okU.slot k (.P m) _ (by rw [hρ]; exact zr_get.mpr ⟨by rw [hm, q0], hdk⟩)
      rw [hσ, List.getElem?_map, hv] at hv'
      cases hv'
      have r'' : R K U.G U.H m v ds'[k] (U.f k) := by
        cases r' with
        | P h => exact h
      have z1 : ∀ a ∈ T.f i, a ∉ fA k → U.H a = T.H a := by
        intro a ha hn'
        cases z : T.H a with
        | none => exact absurd z (ok.own ⟨i, ha⟩)
        | some o =>
          refine keepO a o z fun ⟨k', hk'⟩ => ?_
          obtain ⟨i', p', m', d', e', _, _, l'⟩ := own k' a hk'
          have q := ok.dj i i' a ha (l'.sub a hk')
          subst q
          have := borS_inj hn e e'
          subst this
          exact hn' hk'
      have z2 : ∀ a ∈ U.f k, a ∈ fA k ∨ a ∉ T.f i := by
        intro a ha
        rcases newU a ⟨k, ha⟩ with ⟨k', hk'⟩ | q
        · by_cases c : a ∈ T.f i
          · obtain ⟨i', p', m', d', e', _, _, l'⟩ := own k' a hk'
            have q := ok.dj i i' a c (l'.sub a hk')
            subst q
            have := borS_inj hn e e'
            subst this
            exact .inl hk'
          · exact .inr c
        · exact .inr fun c => ok.own ⟨i, c⟩ q
      obtain ⟨fr, h1, h2, h3⟩ := b3 U.G U.H ds'[k] (U.f k) tg z1 r'' (okU.nd k) z2
      exact ⟨fr, ds'[k], m0, d0, v0, hdk, b1, b2, h1, h2, h3⟩
  have ex2 : ∀ j : Nat, ∃ fr : List Addr, (∀ k p m d, xs[k]? = some (.bor j p m, d) → ∃ d' m0 d0 v0, ds'[k]? = some d' ∧ T.ρ[j]? = some (some (m0, d0)) ∧ T.σ[j]? = some (some v0) ∧ R K U.G U.H m0 v0 (dSet d0 p d') fr ∧ fr.Nodup ∧ ∀ a ∈ fr, (a ∈ T.f j ∧ a ∉ fA k) ∨ a ∈ U.f k) ∧ (j ∉ borS xs → fr = T.f j) := fun j => by
    by_cases c : j ∈ borS xs
    · obtain ⟨k, p, m, d, e⟩ := borS_get c
      obtain ⟨fr, q⟩ := came k j p m d e
      refine ⟨fr, fun k' p' m' d' e' => ?_, fun z => absurd c z⟩
      have := borS_inj hn e e'
      subst this
      rw [e] at e'; cases e'
      exact q
    · exact ⟨T.f j, fun k p m d e => absurd (borS_mem e) c, fun _ => rfl⟩
  obtain ⟨f2, h2⟩ := Classical.axiomOfChoice ex2
  have cls : ∀ j a, a ∈ f2 j → (a ∈ T.f j ∧ ¬ Ow fA a) ∨ (∃ k p m d, xs[k]? = some (.bor j p m, d) ∧ a ∈ U.f k) := fun j a ha => by
    by_cases c : j ∈ borS xs
    · obtain ⟨k, p, m, d, e⟩ := borS_get c
      obtain ⟨d', m0, d0, v0, _, _, _, _, _, q⟩ := (h2 j).1 k p m d e
      rcases q a ha with q | q
      · refine .inl ⟨q.1, fun ⟨k', hk'⟩ => ?_⟩
        obtain ⟨i', p', m', d'', e', _, _, l'⟩ := own k' a hk'
        have z := ok.dj j i' a q.1 (l'.sub a hk')
        subst z
        have := borS_inj hn e e'
        subst this
        exact q.2 hk'
      · exact .inr ⟨k, p, m, d, e, q⟩
    · rw [(h2 j).2 c] at ha
      refine .inl ⟨ha, fun ⟨k', hk'⟩ => ?_⟩
      obtain ⟨i', p', m', d'', e', _, _, l'⟩ := own k' a hk'
      have z := ok.dj j i' a ha (l'.sub a hk')
      subst z
      exact c (borS_mem e')
  have keepS : ∀ j, j ∉ borS xs → ∀ a ∈ T.f j, ∀ o, T.H a = some o → U.H a = some o := fun j hj a ha o ho => keepO a o ho fun ⟨k', hk'⟩ => by
    obtain ⟨i', p', m', d'', e', _, _, l'⟩ := own k' a hk'
    have z := ok.dj j i' a ha (l'.sub a hk')
    subst z
    exact hj (borS_mem e')
  refine ⟨f2, ?_, ?_, ?_, ?_⟩
  · exact {
      ext := okU.ext
      len := by rw [putBack_len]; exact ok.len
      slot := fun j m d e => by
        by_cases c : j ∈ borS xs
        · obtain ⟨k, p, m1, d1, e1⟩ := borS_get c
          obtain ⟨d', m0, d0, v0, q1, q2, q3, q4, _⟩ := (h2 j).1 k p m1 d1 e1
          rw [putBack_eq hn e1 q1 q2] at e
          cases e
          exact ⟨v0, q3, q4⟩
        · rw [putBack_ne c] at e
          obtain ⟨v, g1, g2⟩ := ok.slot j m d e
          refine ⟨v, g1, ?_⟩
          rw [(h2 j).2 c]
          exact g2.keep tg (keepS j c)
      emp := fun j e => by
        by_cases c : j ∈ borS xs
        · obtain ⟨k, p, m1, d1, e1⟩ := borS_get c
          obtain ⟨d', m0, d0, v0, q1, q2, q3, q4, _⟩ := (h2 j).1 k p m1 d1 e1
          exact absurd (putBack_eq hn e1 q1 q2) (e _ _)
        · rw [(h2 j).2 c]
          exact ok.emp j fun m d z => e m d (by rw [putBack_ne c]; exact z)
      nd := fun j => by
        by_cases c : j ∈ borS xs
        · obtain ⟨k, p, m1, d1, e1⟩ := borS_get c
          obtain ⟨d', m0, d0, v0, q1, q2, q3, q4, q5, _⟩ := (h2 j).1 k p m1 d1 e1
          exact q5
        · rw [(h2 j).2 c]; exact ok.nd j
      dj := fun j j' a ha ha' => by
        rcases cls j a ha with q | ⟨k, p, m, d, e, q⟩
        · rcases cls j' a ha' with q' | ⟨k', p', m', d', e', q'⟩
          · exact ok.dj j j' a q.1 q'.1
          · rcases newU a ⟨k', q'⟩ with z | z
            · exact absurd z q.2
            · exact absurd z (ok.own ⟨j, q.1⟩)
        · rcases cls j' a ha' with q' | ⟨k', p', m', d', e', q'⟩
          · rcases newU a ⟨k, q⟩ with z | z
            · exact absurd z q'.2
            · exact absurd z (ok.own ⟨j', q'.1⟩)
          · have := okU.dj k k' a q q'
            subst this
            rw [e] at e'; cases e'; rfl
      out := fun j a ha => by
        rcases cls j a ha with q | ⟨k, p, m, d, e, q⟩
        · have z : T.H a ≠ none := ok.own ⟨j, q.1⟩
          rw [t.stp.gold a z q.2]
          exact ok.out j a q.1
        · exact okU.out k a q
      pins := fun j m d e => by
        by_cases c : j ∈ borS xs
        · obtain ⟨k, p, m1, d1, e1⟩ := borS_get c
          obtain ⟨d', m0, d0, v0, q1, q2, q3, q4, _⟩ := (h2 j).1 k p m1 d1 e1
          rw [putBack_eq hn e1 q1 q2] at e
          cases e
          exact ok.pins j _ _ q2
        · rw [putBack_ne c] at e
          exact ok.pins j m d e }
  · refine ⟨⟨tg, fun a o h1 h3 => keepO a o h1 fun z => h3 (sub a z), fun a h1 h3 => t.stp.gold a h1 fun z => h3 (sub a z), fun a ⟨j, hj⟩ => ?_, t.stp.trk⟩, rfl⟩
    rcases cls j a hj with q | ⟨k, p, m, d, e, q⟩
    · exact .inl ⟨j, q.1⟩
    · exact (newU a ⟨k, q⟩).imp_left (sub a)
  · intro j hj
    exact ⟨putBack_ne hj, (h2 j).2 hj, keepS j hj⟩
  · rintro a ⟨j, hj⟩ hn'
    rcases cls j a hj with q | ⟨k, p, m, d, e, q⟩
    · exact ⟨⟨j, q.1⟩, q.2⟩
    · exact absurd ⟨k, q⟩ hn'
end
end VL

namespace VL
open PySem PySem.Spec PyProof.Rows L2
section
variable {K : PySem.W.Frag} {W : WX} {G G' H H' H0 : Hp} {σ : L2.St} {ρ : Rho} {f f' : Own} {pin : Nat → Option V} {X : Cx} {S S0 S1 T T1 T2 U : Sta} {E : En} {Z : Ends}
/-! ### a call -/
def callK (ms : List Md) (Wf : DF) (p : List Nat) (xs : List (Kd × D)) (ρ : Rho) (P : Po (Kd × D)) : Prop :=
  (argsOk ms xs ∧ nodupB (borS xs) = true) ∧ Wf (xs.map (·.2)) ⟨fun z ds' => P.ok (p ++ borS xs) z (putBack xs ds' ρ), fun C fl ds' => P.ex C fl (putBack xs ds' ρ)⟩
theorem Has.back {kd : Kd} {v : V} {d : D} {pn : Nat → Option V} {σA : L2.St} {ρA : Rho} {fA f2 : Own} {σ2 : L2.St} {ρ2 : Rho} (ok : T.ok K) (sub : ∀ a, Ow fA a → Ow T.f a) (hk : retK kd = true) (h : Has K ⟨pn, T.G, T.H, σA, ρA, fA⟩ U kd v d)
    (last : ∀ a, Ow f2 a → ¬ Ow U.f a → (Ow T.f a ∧ ¬ Ow fA a)) : Has K T ⟨T.pin, U.G, U.H, σ2, ρ2, f2⟩ kd v d := by
  cases kd with
  | fz => exact h
  | bor i p m => cases hk
  | new m =>
    obtain ⟨fp, r, n, k⟩ := h
    refine ⟨fp, r, n, fun a ha => ⟨(k a ha).1, fun z => ?_, ?_⟩⟩
    · obtain ⟨q1, q2⟩ := last a z (k a ha).2.1
      rcases (k a ha).2.2 with z | z
      · exact q2 z
      · exact ok.own q1 z
    · rcases (k a ha).2.2 with z | z
      · exact .inl (sub a z)
      · exact .inr z
/-- the callee's promise, from what is known of the arguments -/
theorem run_call {ms : List Md} {Wf : DF} {p : List Nat} {xs : List (Kd × D)} {vs : List V} {P : Po (Kd × D)} {Q : VK} {EX : XK} (ok : T.ok K) (hx : HasA K S0 T vs xs) (c : callK ms Wf p xs T.ρ P)
    (k : ∀ q x (U : Sta), P.ok q x U.ρ → q = p ++ borS xs → U.σ = T.σ → U.ok K → T.to U → Tch (borS xs) T U → ∀ v : V, Has K T U x.1 v x.2 → Q v U.H)
    (ex : ∀ C fl (U : Sta), P.ex C fl U.ρ → U.σ = T.σ → U.ok K → T.to U → ∀ dd : Option Addr, XD K U.G U.H dd fl → EX (.ref C) dd U.H) : spV K ms ms Wf vs T.H Q EX := by
  obtain ⟨⟨c1, c2⟩, c3⟩ := c
  obtain ⟨fA, sA, sub, back⟩ := call_state ok hx c1 c2
  obtain ⟨hl, _⟩ := argsOk_get c1
  refine ⟨⟨fun i => vs[i]?, T.G, T.H, vs.map some, zr ms (xs.map (·.2)), fA⟩, xs.map (·.2), _, rfl, rfl, rfl, by rw [hx.len, hl], by rw [List.length_map, hl], rfl, sA, c3, fun z ds' U e hd hσ hρ okU t hk v hv => ?_, fun C fl ds' U e hd hσ hρ okU t dd hdd => ?_⟩
  · obtain ⟨f2, b1, b2, b3, b4⟩ := back ds' U hd hσ hρ okU t
    exact k _ z ⟨T.pin, U.G, U.H, T.σ, putBack xs ds' T.ρ, f2⟩ e rfl rfl b1 b2 b3 v (Has.back ok sub hk hv b4)
  · obtain ⟨f2, b1, b2, b3, b4⟩ := back ds' U hd hσ hρ okU t
    exact ex C fl ⟨T.pin, U.G, U.H, T.σ, putBack xs ds' T.ρ, f2⟩ e rfl b1 b2 dd hdd
def wCall (ms : List Md) (Wf : DF) (dfl : List D) (wa : DE (List (Kd × D))) : DE (Kd × D) := fun ρ P => wa ρ ⟨fun p xs ρ1 => callK ms Wf p (xs ++ dfl.map fun d => (.fz, d)) ρ1 P, P.ex⟩
theorem HasA.append {vs ws : List V} {ds es : List (Kd × D)} (h : HasA K S0 T vs ds) (h' : HasA K S0 T ws es) : HasA K S0 T (vs ++ ws) (ds ++ es) := by
  induction h with
  | nil => exact h'
  | cons h t ih => exact .cons h ih
theorem HasA.of_fz : ∀ {vs : List V} {ds : List D}, DtA K T.G vs ds → HasA K S0 T vs (ds.map fun d => (Kd.fz, d))
  | _, _, .nil => .nil
  | _, _, .cons h t => .cons h (HasA.of_fz t)
theorem te_call {ms : List Md} {Wf : DF} {dfl : List D} {dvs : List V} {wa : DE (List (Kd × D))} {Q : VK} (hd : ∀ G, DtA K G dvs dfl) (h : te K W (wCall ms Wf dfl wa) σ H Q) : tCallSD (spV K ms ms Wf) dvs (WE W) (ta K W wa) σ H Q := by
  obtain ⟨S, P, rfl, rfl, ok, w, k, ex⟩ := h
  refine ⟨S, _, rfl, rfl, ok, w, fun p xs T w1 e1 ok1 t1 pr1 vs h1 => ?_, ex⟩
  have hd' : HasA K S T dvs (dfl.map fun d => (Kd.fz, d)) := HasA.of_fz (hd T.G)
  refine run_call (S0 := S) ok1 (h1.append hd') w1 (fun q x U e eq es okU tU pr v hv => ?_) (fun C fl U e es okU tU dd hdd => ?_)
  · exact k _ _ U e (es.trans e1) okU (t1.trans tU) (eq ▸ pr1.trans pr) v (hv.from t1)
  · exact ex C fl U e (es.trans e1) okU (t1.trans tU) dd hdd
/-- without what is lent: an answer that is no object -/
def scD : D → Bool
  | .non => true
  | .bl _ => true
  | .int _ => true
  | .str _ => true
  | _ => false
theorem Dt.sc {v : V} {d : D} (h : Dt K G v d) (hs : scD d = true) (G' : Hp) : Dt K G' v d := by
  cases h with
  | non => exact .non
  | bl => exact .bl _
  | int => exact .int _
  | str => exact .str _
  | lst => cases hs
  | tup => cases hs
  | dct => cases hs
  | obj => cases hs
  | scr => cases hs
  | exc => cases hs
  | ndc => cases hs
def wCallB (n : Nat) (Wf : DF) (dfl : List D) (wa : DE (List (Kd × D))) : DE (Kd × D) := fun ρ P => wa ρ ⟨fun p xs ρ1 => xs.length + dfl.length = n ∧ Wf (xs.map (·.2) ++ dfl) ⟨fun z _ => scD z.2 = true ∧ P.ok p (.fz, z.2) ρ1, fun C fl _ => fl = [] ∧ P.ex C [] ρ1⟩, P.ex⟩
section
variable {k : Nat} {fa : Addr} {fd : FuncData} {ps : List Str} {ms : List Md} {Wf : DF} {x : Str} {p pos : Pos} {e : Expr} {es : List Expr} {wa : DE (List (Kd × D))} {dfl : List D} {dvs : List V} {dvl : List Value} {n : Nat}
theorem q_call (F : FnOk X.prog X.w X.K X.mg X.base (L2.CX X.prog X.w) k fa fd ps (spV X.K ms ms Wf)) (hr : Room k X.A) (hm : X.mg x = some (.ref fa)) (hk : PySem.W.keepIn X.K (.ref fa) = true) (hb : Binds X.K fd ps []) (tk : Takes X W)
    (ha : PA X (e :: es) (ta X.K W wa)) (hg : Gl X x := by rfl) (hdb : (x == ("__debug__" : Str)) = false := by decide) (he : starEach (e :: es) X.env = (false, eval e X.env) :: starEach es X.env := by rfl) (hpl : (backTo pos (starEach es X.env)).any (·.1) = false := by rfl) :
    PE X (.Call (.Name x p) (e :: es) [] pos) (te X.K W (wCall ms Wf [] wa)) :=
  PE.imp (pe_callSD F hr hg hm hk hb .nil (fun σ => passAt tk σ) ha hdb he hpl) fun _ _ _ h => te_call (fun _ => .nil) h
theorem q_callD (F : FnOk X.prog X.w X.K X.mg X.base (L2.CX X.prog X.w) k fa fd ps (spV X.K ms ms Wf)) (hr : Room k X.A) (hm : X.mg x = some (.ref fa)) (hk : PySem.W.keepIn X.K (.ref fa) = true) (hb : Binds X.K fd ps dvl) (hv : Vals dvs dvl) (hd : ∀ G, DtA X.K G dvs dfl) (tk : Takes X W)
    (ha : PA X (e :: es) (ta X.K W wa)) (hg : Gl X x := by rfl) (hdb : (x == ("__debug__" : Str)) = false := by decide) (he : starEach (e :: es) X.env = (false, eval e X.env) :: starEach es X.env := by rfl) (hpl : (backTo pos (starEach es X.env)).any (·.1) = false := by rfl) :
    PE X (.Call (.Name x p) (e :: es) [] pos) (te X.K W (wCall ms Wf dfl wa)) :=
  PE.imp (pe_callSD F hr hg hm hk hb hv (fun σ => passAt tk σ) ha hdb he hpl) fun _ _ _ h => te_call hd h
end
/-! ### slots frozen, moved -/
def wFrz (i : Nat) : DE (Kd × D) := fun ρ P => match ρ[i]? with
  | some (some (m, d)) => notP m = true ∧ P.ok [i] (.fz, d) (ρ.set i (some (.F, d)))
  | _ => False
theorem te_frz {i : Nat} {Q : VK} (h : te K W (wFrz i) σ H Q) : tVar i σ H Q := by
  obtain ⟨S, P, rfl, rfl, ok, w, k, _⟩ := h
  unfold wFrz at w
  split at w
  · rename_i m d e
    obtain ⟨v, hv, r⟩ := ok.slot i _ _ e
    have hlt := (List.getElem?_eq_some_iff.mp e).1
    have B : ∀ a, a ∈ S.f i → S.G a = none := fun a h => ok.out i a h
    have dv : Dt K (Gadd S.G S.H (· ∈ S.f i)) v d := r.dt (Gadd.ext B) fun a ha o q => by rw [Gadd.in ha]; exact q
    have sx : Sx K S.pin (Gadd S.G S.H (· ∈ S.f i)) S.H S.σ (S.ρ.set i (some (.F, d))) (S.f.set i []) := {
      ext := Gadd.sub ok.ext
      len := by simp [ok.len]
      slot := fun j m' d' e' => by
        by_cases c : j = i
        · subst c
          rw [List.getElem?_set_self hlt] at e'
          cases e'
          exact ⟨v, hv, by rw [Own.set_same]; exact .F dv⟩
        · rw [List.getElem?_set_ne (Ne.symm c)] at e'
          obtain ⟨u, h1, h2⟩ := ok.slot j m' d' e'
          exact ⟨u, h1, by rw [Own.set_ne c]; exact h2.keep (Gadd.ext B) fun a _ o h => h⟩
      emp := fun j e' => by
        by_cases c : j = i
        · subst c; exact Own.set_same
        · rw [Own.set_ne c]
          exact ok.emp j fun m' d' q => e' m' d' (by rw [List.getElem?_set_ne (Ne.symm c)]; exact q)
      nd := fun j => by
        by_cases c : j = i
        · subst c; rw [Own.set_same]; exact List.nodup_nil
        · rw [Own.set_ne c]; exact ok.nd j
      dj := fun j j' a h h' => by
        by_cases c : j = i
        · subst c; rw [Own.set_same] at h; cases h
        · by_cases c' : j' = i
          · subst c'; rw [Own.set_same] at h'; cases h'
          · rw [Own.set_ne c] at h; rw [Own.set_ne c'] at h'; exact ok.dj _ _ a h h'
      out := fun j a h => by
        by_cases c : j = i
        · subst c; rw [Own.set_same] at h; cases h
        · rw [Own.set_ne c] at h
          rw [Gadd.out fun z => c (ok.dj j i a h z)]
          exact ok.out j a h
      pins := fun j m' d' e' => by
        by_cases c : j = i
        · subst c; rw [List.getElem?_set_self hlt] at e'; cases e'
        · rw [List.getElem?_set_ne (Ne.symm c)] at e'
          exact ok.pins j m' d' e' }
    refine ⟨v, hv, k _ _ ⟨S.pin, Gadd S.G S.H (· ∈ S.f i), S.H, S.σ, S.ρ.set i (some (.F, d)), S.f.set i []⟩ w.2 rfl sx ⟨⟨Gadd.ext B, fun a o h _ => h, fun a _ h => Gadd.out fun z => h ⟨i, z⟩, fun a ⟨j, hj⟩ => ?_, fun _ h => h⟩, rfl⟩ (fun j hj => ?_) v dv⟩
    · by_cases c : j = i
      · subst c
        have hj' : a ∈ S.f.set j [] j := hj
        rw [Own.set_same] at hj'; cases hj'
      · have hj' : a ∈ S.f.set i [] j := hj
        rw [Own.set_ne c] at hj'; exact .inl ⟨j, hj'⟩
    · have c : j ≠ i := fun z => hj (by rw [z]; exact List.mem_cons_self)
      exact ⟨List.getElem?_set_ne (Ne.symm c), Own.set_ne c, fun _ _ _ h => h⟩
  · exact w.elim
def wMov (i : Nat) : DE (Kd × D) := fun ρ P => match ρ[i]? with
  | some (some (m, d)) => notP m = true ∧ P.ok [i] (.new m, d) (ρ.set i none)
  | _ => False
theorem te_mov {i : Nat} {Q : VK} (h : te K W (wMov i) σ H Q) : tVar i σ H Q := by
  obtain ⟨S, P, rfl, rfl, ok, w, k, _⟩ := h
  unfold wMov at w
  split at w
  · rename_i m d e
    obtain ⟨v, hv, r⟩ := ok.slot i _ _ e
    refine ⟨v, hv, k _ _ ⟨S.pin, S.G, S.H, S.σ, S.ρ.set i none, S.f.set i []⟩ w.2 rfl (Sx.forget ok i) ⟨⟨Ex.refl _, fun a o h _ => h, fun _ _ _ => rfl, fun a ⟨j, hj⟩ => ?_, fun _ h => h⟩, rfl⟩ (fun j hj => ?_) v ⟨S.f i, r, ok.nd i, fun a ha => ⟨ok.out i a ha, fun ⟨j, hj⟩ => ?_, .inl ⟨i, ha⟩⟩⟩⟩
    · by_cases c : j = i
      · subst c
        have hj' : a ∈ S.f.set j [] j := hj
        rw [Own.set_same] at hj'; cases hj'
      · have hj' : a ∈ S.f.set i [] j := hj
        rw [Own.set_ne c] at hj'; exact .inl ⟨j, hj'⟩
    · have c : j ≠ i := fun z => hj (by rw [z]; exact List.mem_cons_self)
      exact ⟨List.getElem?_set_ne (Ne.symm c), Own.set_ne c, fun _ _ _ h => h⟩
    · by_cases c : j = i
      · subst c
        have hj' : a ∈ S.f.set j [] j := hj
        rw [Own.set_same] at hj'; cases hj'
      · have hj' : a ∈ S.f.set i [] j := hj
        rw [Own.set_ne c] at hj'
        exact c (ok.dj j i a hj' ha)
  · exact w.elim
section
variable {x : Str} {pos : Pos}
theorem q_frz (i : Nat) (hN : X.N[i]? = some x := by rfl) (hv : Vis X.env.scope x := by first | exact Or.inl rfl | exact Or.inr (Or.inl rfl) | exact Or.inr (Or.inr rfl)) (hd : (x == ("__debug__" : Str)) = false := by decide)
    (hcd : (x == ("__classdict__" : Str)) = false := by decide) : PE X (.Name x pos) (te X.K W (wFrz i)) := PE.imp (pv i hN hv hd hcd) fun _ _ _ h => te_frz h
theorem q_mov (i : Nat) (hN : X.N[i]? = some x := by rfl) (hv : Vis X.env.scope x := by first | exact Or.inl rfl | exact Or.inr (Or.inl rfl) | exact Or.inr (Or.inr rfl)) (hd : (x == ("__debug__" : Str)) = false := by decide)
    (hcd : (x == ("__classdict__" : Str)) = false := by decide) : PE X (.Name x pos) (te X.K W (wMov i)) := PE.imp (pv i hN hv hd hcd) fun _ _ _ h => te_mov h
end
end
end VL

namespace VL
open PySem PySem.Spec PyProof.Rows L2
section
variable {K : PySem.W.Frag} {W : WX} {G G' H H' H0 : Hp} {σ : L2.St} {ρ : Rho} {f f' : Own} {pin : Nat → Option V} {X : Cx} {S S0 S1 T T1 T2 U : Sta} {E : En} {Z : Ends}
/-! ### targets -/
abbrev DG := D → Rho → (Rho → Prop) → Prop
abbrev DGs := List D → Rho → (Rho → Prop) → Prop
/-- what a target does: the slots vs alone are stored -/
def tg (K : PySem.W.Frag) (vs : List Nat) (wg : DG) : TG := fun v σ H Q =>
  ∃ (S : Sta) (d : D) (P : Rho → Prop), S.σ = σ ∧ S.H = H ∧ S.ok K ∧ Dt K S.G v d ∧ wg d S.ρ P ∧ ∀ T : Sta, P T.ρ → T.ok K → S.to T → Tch vs S T → (∀ j, j ∉ vs → T.σ[j]? = S.σ[j]?) → T.σ.length = S.σ.length → Q T.σ T.H
def tgs (K : PySem.W.Frag) (vs : List Nat) (wg : DGs) : TGs := fun us σ H Q =>
  ∃ (S : Sta) (d : List D) (P : Rho → Prop), S.σ = σ ∧ S.H = H ∧ S.ok K ∧ DtA K S.G us d ∧ wg d S.ρ P ∧ ∀ T : Sta, P T.ρ → T.ok K → S.to T → Tch vs S T → (∀ j, j ∉ vs → T.σ[j]? = S.σ[j]?) → T.σ.length = S.σ.length → Q T.σ T.H
theorem PG.imp {e : Expr} {t t' : TG} (h : PG X e t) (k : ∀ v σ H Q, t' v σ H Q → t v σ H Q) : PG X e t' := ⟨fun pins s σ H v u Q I r q => h.run pins s σ H v u Q I r (k v σ H Q q)⟩
theorem PGs.imp {e : List Expr} {t t' : TGs} (h : PGs X e t) (k : ∀ v σ H Q, t' v σ H Q → t v σ H Q) : PGs X e t' := ⟨fun pins s σ H v u Q I r q => h.run pins s σ H v u Q I r (k v σ H Q q)⟩
def wgN (i : Nat) : DG := fun d ρ P => okSlot ρ i = true ∧ P (ρ.set i (some (.F, d)))
def wgNil : DGs := fun ds ρ P => match ds with
  | [] => P ρ
  | _ => False
def wgCons (a : DG) (b : DGs) : DGs := fun ds ρ P => match ds with
  | d :: ds => a d ρ fun ρ' => b ds ρ' P
  | _ => False
def wgTup (n : Nat) (a : DGs) : DG := fun d ρ P => match d with
  | .tup ds => ds.length = n ∧ a ds ρ P
  | _ => False
theorem Tch.put {i : Nat} {v : V} {m : Md} {d : D} {fp : List Addr} : Tch [i] T (T.put i v m d fp) := fun j hj => by
  have c : j ≠ i := fun z => hj (by rw [z]; exact List.mem_cons_self)
  exact ⟨List.getElem?_set_ne (Ne.symm c), Own.set_ne c, fun _ _ _ h => h⟩
theorem tg_name {i : Nat} {v : V} {Q : L2.St → Hp → Prop} (h : tg K [i] (wgN i) v σ H Q) : gName i v σ H Q := by
  obtain ⟨S, d, P, rfl, rfl, ok, hd, w, k⟩ := h
  refine k (S.put i v .F d []) w.2 (Sx.put ok w.1 rfl (.F hd) List.nodup_nil fun _ h => nomatch h) ((Sta.refl S).put fun _ h => nomatch h) Tch.put (fun j hj => ?_) ?_
  · exact List.getElem?_set_ne fun z => hj (by rw [z]; exact List.mem_cons_self)
  · exact List.length_set
theorem tgs_nil {us : List V} {Q : L2.St → Hp → Prop} (h : tgs K [] wgNil us σ H Q) : gNil us σ H Q := by
  obtain ⟨S, d, P, rfl, rfl, ok, hd, w, k⟩ := h
  cases hd with
  | nil => exact ⟨rfl, k S w ok (Sta.refl S) (Tch.refl S _) (fun _ _ => rfl) rfl⟩
  | cons h t => exact w.elim
theorem tgs_cons {a : DG} {b : DGs} {va vb : List Nat} {us : List V} {Q : L2.St → Hp → Prop} (h : tgs K (va ++ vb) (wgCons a b) us σ H Q) : gCons (tg K va a) (tgs K vb b) us σ H Q := by
  obtain ⟨S, d, P, rfl, rfl, ok, hd, w, k⟩ := h
  cases hd with
  | nil => exact w.elim
  | @cons v d us ds h t =>
    refine ⟨v, us, rfl, S, d, _, rfl, rfl, ok, h, w, fun T e okT tT ch hs hl => ?_⟩
    refine ⟨T, ds, _, rfl, rfl, okT, t.mono tT.stp.gext, e, fun U e' okU tU ch' hs' hl' => ?_⟩
    exact k U e' okU (tT.trans tU) (ch.trans ch') (fun j hj => (hs' j fun z => hj (List.mem_append_right _ z)).trans (hs j fun z => hj (List.mem_append_left _ z))) (hl'.trans hl)
theorem tg_tup {n : Nat} {a : DGs} {vs : List Nat} {v : V} {Q : L2.St → Hp → Prop} (h : tg K vs (wgTup n a) v σ H Q) : gTup K n (tgs K vs a) v σ H Q := by
  obtain ⟨S, d, P, rfl, rfl, ok, hd, w, k⟩ := h
  unfold wgTup at w
  split at w
  · rename_i ds
    cases hd with
    | tup hs ha => exact ⟨_, _, rfl, ok.ext.t hs, by rw [ha.len]; exact w.1, S, ds, P, rfl, rfl, ok, ha, w.2, k⟩
  · exact w.elim
theorem q_gname (i : Nat) {x : Str} {pos : Pos} (hN : X.N.Nodup) (hi : X.N[i]? = some x := by rfl) (hx : Loc X.env.scope x := by first | exact Or.inl rfl | exact Or.inr rfl) (hf : X.fn x = true ∨ X.env.scope.names.lookup x = some .local := by first | exact .inl rfl | exact .inr rfl | assumption) : PG X (.Name x pos) (tg X.K [i] (wgN i)) :=
  PG.imp (pg_name hN hi hx hf) fun _ _ _ _ h => tg_name h
theorem q_gnil : PGs X [] (tgs X.K [] wgNil) := PGs.imp pgs_nil fun _ _ _ _ h => tgs_nil h
theorem q_gcons {e : Expr} {es : List Expr} {a : DG} {b : DGs} {va vb : List Nat} (h1 : PG X e (tg X.K va a)) (h2 : PGs X es (tgs X.K vb b)) (hs : (assignEach (e :: es) X.env).map (·.2) = assign e X.env :: (assignEach es X.env).map (·.2) := by rfl) : PGs X (e :: es) (tgs X.K (va ++ vb) (wgCons a b)) :=
  PGs.imp (pgs_cons h1 h2 hs) fun _ _ _ _ h => tgs_cons h
theorem q_gtup {es : List Expr} {k n : Nat} {a : DGs} {vs : List Nat} {pos : Pos} (hc : X.calm = true) (h : PGs X es (tgs X.K vs a)) (hn : (assignEach es X.env).length = n := by rfl) (hst : (assignEach es X.env).findIdx? (·.1) = none := by rfl) : PG X (.Tuple es k pos) (tg X.K vs (wgTup n a)) :=
  PG.imp (pg_tup hc h hn hst) fun _ _ _ _ h => tg_tup h
/-- target = e -/
def wAsg (we : DE (Kd × D)) (g : DG) : DS := fun E ρ => wFz we ρ ⟨fun _ x ρ' => match x.1 with
  | .fz => g x.2 ρ' E.nx
  | _ => False, E.ex⟩
theorem ts_asg {we : DE (Kd × D)} {g : DG} {vs : List Nat} (h : ts K W (wAsg we g) Z σ H) : tAsg (te K W we) (tg K vs g) Z σ H := by
  obtain ⟨S, E, rfl, rfl, ok, w, l⟩ := h
  show te K W we S.σ S.H fun x H1 => tg K vs g x S.σ H1 Z.nx
  refine te_fz (te_in ok l w fun p x T e es okT t _ v hv => ?_)
  obtain ⟨kd, d⟩ := x
  cases kd with
  | fz => exact ⟨T, d, _, es, rfl, okT, hv, e, fun U e' okU tU _ _ _ => l.nx U e' okU (t.trans tU)⟩
  | bor i p m => exact e.elim
  | new m => exact e.elim
theorem q_asg {t e : Expr} {we : DE (Kd × D)} {g : DG} {vs : List Nat} {pos : Pos} (he : PE X e (te X.K W we)) (hg : PG X t (tg X.K vs g)) (hs : swapsWithSole [t] e pos.line X.env = pure false := by rfl) (hw : swappedStores [t] e X.env = pure none := by rfl)
    (h1 : (assignEach [t] X.env).map (·.2) = [assign t X.env] := by rfl) : PS X (.Assign [t] e pos) (ts X.K W (wAsg we g)) := PS.imp (ps_asg he hg hs hw h1) fun _ _ _ h => ts_asg h
/-- a, b = x, y -/
def par2 (i j : Nat) (xs : List (Kd × D)) (ρ : Rho) (q : Rho → Prop) : Prop := match xs with
  | [(.fz, d), (.fz, e)] => okSlot ρ i = true ∧ okSlot (ρ.set i (some (.F, d))) j = true ∧ q ((ρ.set i (some (.F, d))).set j (some (.F, e)))
  | _ => False
def wPar (i j : Nat) (wa : DE (List (Kd × D))) : DS := fun E ρ => wa ρ ⟨fun _ xs ρ' => par2 i j xs ρ' E.nx, E.ex⟩
/-! ### while -/
def wWhile (c : DE Bool) (b : DS) : DS := fun E ρ => ∃ I : Nat → Rho → Prop, (∃ m, I m ρ) ∧ ∀ m ρ, I m ρ → c ρ ⟨fun _ k ρ' => match k with
  | true => b { E with nx := fun ρ2 => ∃ m', m' < m ∧ I m' ρ2, ct := fun ρ2 => ∃ m', m' < m ∧ I m' ρ2, bk := E.nx } ρ'
  | false => E.nx ρ', E.ex⟩
theorem ts_while {c : DE Bool} {b : DS} (h : ts K W (wWhile c b) Z σ H) : tWhile (tt K W c) (ts K W b) Z σ H := by
  obtain ⟨S, E, rfl, rfl, ok, ⟨I, ⟨m0, i0⟩, w⟩, l⟩ := h
  refine ⟨fun m σ H => ∃ T : Sta, T.σ = σ ∧ T.H = H ∧ T.ok K ∧ S.to T ∧ I m T.ρ, ⟨m0, S, rfl, rfl, ok, Sta.refl S, i0⟩, ?_⟩
  rintro m _ _ ⟨T, rfl, rfl, okT, t, iT⟩
  refine ⟨T, _, rfl, rfl, okT, w m T.ρ iT, fun p k U e es okU tU _ v hv => ?_, fun C fl U e es okU tU dd hd => es ▸ l.ex C fl U e okU (t.trans tU) dd hd⟩
  subst hv
  have l' := l.to t
  cases v with
  | true =>
    refine ⟨fun σ' H' => ∃ m', m' < m ∧ ∃ T : Sta, T.σ = σ' ∧ T.H = H' ∧ T.ok K ∧ S.to T ∧ I m' T.ρ, fun _ _ h => h, U, _, es, rfl, okU, e, ?_⟩
    refine ⟨fun V ⟨m', hm, hi⟩ okV tV => ⟨m', hm, V, rfl, rfl, okV, (t.trans tU).trans tV, hi⟩, fun V e okV tV => l'.nx V e okV (tU.trans tV), fun V ⟨m', hm, hi⟩ okV tV => ⟨m', hm, V, rfl, rfl, okV, (t.trans tU).trans tV, hi⟩, ?_, ?_⟩
    · exact fun x V e okV tV v hv => l'.rt x V e okV (tU.trans tV) v (hv.from tU)
    · exact fun C fl V e okV tV dd hd => l'.ex C fl V e okV (tU.trans tV) dd hd
  | false =>
    show Z.nx T.σ U.H
    rw [← es]
    exact l'.nx U e okU tU
theorem q_while {c : Expr} {body : List Stmt} {wc : DE Bool} {wb : DS} {pos : Pos} (hp : PassesOwn (model X.prog X.w) X.A X.env X.xe) (hc : PT X c (tt X.K W wc)) (hb : PSs X body (ts X.K W wb)) : PS X (.While c body [] pos) (ts X.K W (wWhile wc wb)) :=
  PS.imp (ps_while hp hc hb) fun _ _ _ h => ts_while h
/-! ### what is walked -/
/-- J yields the items ds, one after another, wherever all of G stands -/
def Src (K : PySem.W.Frag) (G : Hp) (J : It) (ds : List D) : Prop := ∀ (G1 H1 : Hp), Ex G G1 → Ex G1 H1 → ∀ i : Nat,
  (i < ds.length → J.go i H1) ∧ (ds.length ≤ i → J.stop i H1) ∧ ∀ (x : V) (H2 : Hp) (d : D), J.yld i H1 x H2 → ds[i]? = some d → ∃ G2, Grow G1 H1 G2 H2 ∧ Dt K G2 x d
abbrev lI : Rl It (List D) := fun K _ S J ds => Src K S.G J ds
abbrev ti : PySem.W.Frag → WX → DE (List D) → TI := tgen lI
theorem PI.imp {tgt e : Expr} {t t' : TI} (h : PI X tgt e t) (k : ∀ σ H Q, t' σ H Q → t σ H Q) : PI X tgt e t' := ⟨fun pins s σ H Q I q => h.run pins s σ H Q I (k σ H Q q)⟩
def wFor (w : DE (List D)) (g : DG) (b : DS) : DS := fun E ρ => w ρ ⟨fun _ ds ρ1 => ∃ I : Nat → Rho → Prop, I 0 ρ1 ∧
  (∀ i d ρ2, ds[i]? = some d → I i ρ2 → g d ρ2 fun ρ3 => b { E with nx := I (i + 1), ct := I (i + 1), bk := E.nx } ρ3) ∧ (∀ ρ2, I ds.length ρ2 → E.nx ρ2), E.ex⟩
theorem ts_for {w : DE (List D)} {g : DG} {b : DS} {vs : List Nat} (h : ts K W (wFor w g b) Z σ H) : tFor (ti K W w) (tg K vs g) (ts K W b) Z σ H := by
  obtain ⟨S, E, rfl, rfl, ok, w, l⟩ := h
  refine ⟨S, _, rfl, rfl, ok, w, fun p ds T e es okT t _ J hJ => ?_, fun C fl T e es okT tT dd hd => es ▸ l.ex C fl T e okT tT dd hd⟩
  obtain ⟨I, i0, istep, iend⟩ := e
  refine ⟨fun i n σ H => n + i = ds.length ∧ ∃ U : Sta, U.σ = σ ∧ U.H = H ∧ U.ok K ∧ T.to U ∧ I i U.ρ, ⟨ds.length, rfl, T, es, rfl, okT, Sta.refl T, i0⟩, ?_⟩
  rintro i n _ _ ⟨hn, U, rfl, rfl, okU, tU, iU⟩
  obtain ⟨h1, h2, h3⟩ := hJ U.G U.H tU.stp.gext okU.ext i
  have l' := l.to (t.trans tU)
  by_cases c : i < ds.length
  · refine .inr ⟨h1 c, fun σ' H' => ∃ V : Sta, V.σ = σ' ∧ V.H = H' ∧ V.ok K ∧ T.to V ∧ I (i + 1) V.ρ, fun σ' H' hV => ⟨n - 1, by omega, by omega, hV⟩, fun x H2 hy => ?_⟩
    have hd : ds[i]? = some ds[i] := List.getElem?_eq_getElem c
    obtain ⟨G2, gr, dx⟩ := h3 x H2 ds[i] hy hd
    refine ⟨U.at G2 H2, ds[i], _, rfl, rfl, Sta.grow okU gr, dx, istep i _ U.ρ hd iU, fun V e okV tV _ _ _ => ?_⟩
    refine ⟨V, _, rfl, rfl, okV, e, ?_⟩
    have tUV : U.to V := gr.to.trans tV
    refine ⟨fun A hA okA tA => ⟨A, rfl, rfl, okA, (tU.trans tUV).trans tA, hA⟩, fun A e okA tA => l'.nx A e okA (tUV.trans tA), fun A hA okA tA => ⟨A, rfl, rfl, okA, (tU.trans tUV).trans tA, hA⟩, ?_, ?_⟩
    · exact fun x A e okA tA v hv => l'.rt x A e okA (tUV.trans tA) v (hv.from tUV)
    · exact fun C fl A e okA tA dd hd => l'.ex C fl A e okA (tUV.trans tA) dd hd
  · have hi : i = ds.length := by omega
    refine .inl ⟨h2 (by omega), ?_⟩
    exact l'.nx U (iend U.ρ (by rw [← hi]; exact iU)) okU (Sta.refl U)
theorem q_for {tgt iter : Expr} {body : List Stmt} {w : DE (List D)} {g : DG} {b : DS} {vs : List Nat} {pos : Pos} (hp : PassesOwn (model X.prog X.w) X.A X.env X.xe) (hc : X.calm = true) (hi : PI X tgt iter (ti X.K W w)) (hg : PG X tgt (tg X.K vs g)) (hb : PSs X body (ts X.K W b))
    (hs : ∀ x, foldedSetIterable iter X.env x = pure x := by intro _; rfl) : PS X (.For tgt iter body [] pos) (ts X.K W (wFor w g b)) := PS.imp (ps_for hp hc hi hg hb hs) fun _ _ _ h => ts_for h
end
end VL

namespace VL
open PySem PySem.Spec PyProof.Rows L2
section
variable {K : PySem.W.Frag} {W : WX} {G G' H H' H0 : Hp} {σ : L2.St} {ρ : Rho} {f f' : Own} {pin : Nat → Option V} {X : Cx} {S S0 S1 T T1 T2 U : Sta} {E : En} {Z : Ends}
/-! ### a list comprehension -/
def wipeR (ρ : Rho) : List Nat → Rho
  | [] => ρ
  | v :: vs => (wipeR ρ vs).set v none
def wipeF (f : Own) : List Nat → Own
  | [] => f
  | v :: vs => (wipeF f vs).set v []
theorem Sx.wipe (S : Sx K pin G H σ ρ f) : ∀ vs : List Nat, Sx K pin G H σ (wipeR ρ vs) (wipeF f vs)
  | [] => S
  | v :: vs => (Sx.wipe S vs).forget v
theorem wipeF_sub {a : Addr} : ∀ {vs : List Nat} {i : Nat}, a ∈ wipeF f vs i → a ∈ f i
  | [], _, h => h
  | v :: vs, i, h => by
    by_cases c : i = v
    · subst c
      have h' : a ∈ (wipeF f vs).set i [] i := h
      rw [Own.set_same] at h'; cases h'
    · have h' : a ∈ (wipeF f vs).set v [] i := h
      rw [Own.set_ne c] at h'; exact wipeF_sub h'
theorem wipeR_none : ∀ {vs : List Nat} {v : Nat} {x : Md × D}, v ∈ vs → (wipeR ρ vs)[v]? ≠ some (some x)
  | w :: vs, v, x, h => fun e => by
    by_cases c : v = w
    · subst c
      have e' : ((wipeR ρ vs).set v none)[v]? = some (some x) := e
      by_cases l : v < (wipeR ρ vs).length
      · rw [List.getElem?_set_self l] at e'; cases e'
      · rw [List.getElem?_eq_none (by simpa using l)] at e'; cases e'
    · have e' : ((wipeR ρ vs).set w none)[v]? = some (some x) := e
      rw [List.getElem?_set_ne (Ne.symm c)] at e'
      exact wipeR_none ((List.mem_cons.mp h).resolve_left c) e'
theorem wipeR_ne : ∀ {vs : List Nat} {v : Nat}, v ∉ vs → (wipeR ρ vs)[v]? = ρ[v]?
  | [], _, _ => rfl
  | w :: vs, v, h => by
    have c : v ≠ w := fun z => h (by rw [z]; exact List.mem_cons_self)
    show ((wipeR ρ vs).set w none)[v]? = _
    rw [List.getElem?_set_ne (Ne.symm c), wipeR_ne fun z => h (List.mem_cons_of_mem _ z)]
theorem wipeF_ne : ∀ {vs : List Nat} {v : Nat}, v ∉ vs → wipeF f vs v = f v
  | [], _, _ => rfl
  | w :: vs, v, h => by
    have c : v ≠ w := fun z => h (by rw [z]; exact List.mem_cons_self)
    show (wipeF f vs).set w [] v = _
    rw [Own.set_ne c, wipeF_ne fun z => h (List.mem_cons_of_mem _ z)]
theorem wipe_ne {σ : L2.St} : ∀ {vs : List Nat} {v : Nat}, v ∉ vs → (wipe σ vs)[v]? = σ[v]?
  | [], _, _ => rfl
  | w :: vs, v, h => by
    have c : v ≠ w := fun z => h (by rw [z]; exact List.mem_cons_self)
    show ((wipe σ vs).set w none)[v]? = _
    rw [List.getElem?_set_ne (Ne.symm c), wipe_ne fun z => h (List.mem_cons_of_mem _ z)]
theorem wipe_in {σ : L2.St} : ∀ {vs : List Nat} {v : Nat}, v ∈ vs → (wipe σ vs)[v]? = if v < σ.length then some none else none
  | w :: vs, v, h => by
    by_cases c : v = w
    · subst c
      show ((wipe σ vs).set v none)[v]? = _
      by_cases l : v < σ.length
      · rw [if_pos l, List.getElem?_set_self (by rw [wipe_length]; exact l)]
      · rw [if_neg l, List.getElem?_eq_none (by rw [List.length_set, wipe_length]; omega)]
    · show ((wipe σ vs).set w none)[v]? = _
      rw [List.getElem?_set_ne (Ne.symm c)]
      exact wipe_in ((List.mem_cons.mp h).resolve_left c)
theorem wipe_eq {σ τ : L2.St} {vs : List Nat} (h : ∀ j, j ∉ vs → τ[j]? = σ[j]?) (l : τ.length = σ.length) : wipe τ vs = wipe σ vs := by
  refine List.ext_getElem? fun j => ?_
  by_cases c : j ∈ vs
  · rw [wipe_in c, wipe_in c, l]
  · rw [wipe_ne c, wipe_ne c, h j c]
/-- other slots' values may stand where the data knows nothing -/
theorem Sx.slots {τ : L2.St} (S : Sx K pin G H σ ρ f) (l : τ.length = σ.length) (h : ∀ (i : Nat) (x : Md × D), ρ[i]? = some (some x) → τ[i]? = σ[i]?) : Sx K pin G H τ ρ f where
  ext := S.ext
  len := S.len.trans l.symm
  slot := fun i m d e => by
    obtain ⟨v, h1, h2⟩ := S.slot i m d e
    exact ⟨v, by rw [h i _ e]; exact h1, h2⟩
  emp := S.emp
  nd := S.nd
  dj := S.dj
  out := S.out
  pins := fun i m d e => by
    obtain ⟨v, h1, h2⟩ := S.pins i m d e
    exact ⟨v, h1, by rw [h i _ e]; exact h2⟩
/-- a thing that is neither frozen nor a slot's is changed -/
theorem Sx.aside (S : Sx K pin G H σ ρ f) {a : Addr} {o : HO} (h1 : G a = none) (h2 : ¬ Ow f a) : Sx K pin G (upd H a o) σ ρ f where
  ext := fun b u e => by rw [upd_ne (ne_of_none e h1)]; exact S.ext b u e
  len := S.len
  slot := fun i m d e => by
    obtain ⟨v, g1, g2⟩ := S.slot i m d e
    exact ⟨v, g1, g2.keep (Ex.refl _) fun b hb u q => by rw [upd_ne fun z : b = a => h2 ⟨i, by rw [← z]; exact hb⟩]; exact q⟩
  emp := S.emp
  nd := S.nd
  dj := S.dj
  out := S.out
  pins := S.pins
def subL (p q : List Nat) : Bool := p.all fun i => q.contains i
theorem subL_of {p q : List Nat} (h : subL p q = true) : ∀ i ∈ p, i ∈ q := fun i hi => by
  have := List.all_eq_true.mp h i hi
  simpa using this
theorem Tch.mono {p q : List Nat} (h : Tch p S T) (s : ∀ i ∈ p, i ∈ q) : Tch q S T := fun i hi => h i fun z => hi (s i z)
def noEx : Addr → List (Str × D) → Rho → Prop := fun _ _ _ => False
/-- one turn -/
def lcTurn (g : DG) (t : DE Bool) (we : DE (Kd × D)) (vs q : List Nat) (d : D) (acc : List D) (ρ : Rho) (N : List D → Rho → Prop) : Prop :=
  g d ρ fun ρ3 => t ρ3 ⟨fun p4 b ρ4 => subL p4 q = true ∧ match b with
    | true => wFz we ρ4 ⟨fun p5 x ρ5 => (subL p5 q = true ∧ allFz [x] = true ∧ small (acc.length + 1) = true) ∧ N (acc ++ [x.2]) (wipeR ρ5 vs), noEx⟩
    | false => N acc (wipeR ρ4 vs), noEx⟩
def wLc (w : DE (List D)) (g : DG) (t : DE Bool) (we : DE (Kd × D)) (vs q : List Nat) : DE (Kd × D) := fun ρ P => w ρ ⟨fun p ds ρ1 => ∃ I : Nat → List D → Rho → Prop, I 0 [] (wipeR ρ1 vs) ∧
  (∀ i d acc ρ2, ds[i]? = some d → I i acc ρ2 → lcTurn g t we vs q d acc ρ2 (I (i + 1))) ∧ (∀ acc ρ2, I ds.length acc ρ2 → P.ok (p ++ (vs ++ q)) (.new (.L .F), .lst acc) ρ2), P.ex⟩
theorem te_lc {w : DE (List D)} {g : DG} {t : DE Bool} {we : DE (Kd × D)} {vs q : List Nat} {Q : VK} (h : te K W (wLc w g t we vs q) σ H Q) :
    tLc (ti K W w) (tg K vs g) (tt K (fun _ _ _ _ => False) t) (te K (fun _ _ _ _ => False) we) vs σ H Q := by
  obtain ⟨S, P, rfl, rfl, ok, w, k, ex⟩ := h
  refine ⟨S, _, rfl, rfl, ok, w, fun p ds T e es okT tT pr J hJ Dn hD => ?_, ex⟩
  obtain ⟨I, i0, istep, iend⟩ := e
  -- the state at the block's start
  have okB : Sx K T.pin T.G T.H (wipe S.σ vs) (wipeR T.ρ vs) (wipeF T.f vs) := (Sx.wipe okT vs).slots (by rw [wipe_length, es]) fun i x hx => by
    rw [← es]
    exact wipe_ne fun z => wipeR_none z hx
  have hDf : ∀ a, Ow (wipeF T.f vs) a → Ow T.f a := fun a ⟨i, hi⟩ => ⟨i, wipeF_sub hi⟩
  have gD : T.G Dn = none := okT.ext.free hD
  have fD : ¬ Ow (wipeF T.f vs) Dn := fun z => okT.own (hDf Dn z) hD
  -- between two turns
  refine ⟨fun i n H => n + i = ds.length ∧ ∃ (U : Sta) (acc : List D) (va : List V), U.σ = wipe S.σ vs ∧ U.H = H ∧ U.ok K ∧ T.to U ∧ Tch (vs ++ q) T U ∧ H Dn = some (.lst va) ∧ DtA K U.G va acc ∧ U.G Dn = none ∧ ¬ Ow U.f Dn ∧ I i acc U.ρ ∧ (∀ v ∈ vs, ∀ x, U.ρ[v]? ≠ some (some x)), ⟨ds.length, rfl, ⟨T.pin, T.G, upd T.H Dn (.lst []), wipe S.σ vs, wipeR T.ρ vs, wipeF T.f vs⟩, [], [], rfl, rfl, okB.aside gD fD, ⟨⟨Ex.refl _, fun a o ha _ => ?_, fun _ _ _ => rfl, fun a ha => .inl (hDf a ha), fun a ha => ?_⟩, rfl⟩, fun j hj => ?_, upd_same, .nil, gD, fD, i0, fun v hv x => wipeR_none hv⟩, ?_⟩
  · show upd T.H Dn _ a = _
    rw [upd_ne (ne_of_none ha hD)]; exact ha
  · show upd T.H Dn _ a ≠ none
    by_cases c : a = Dn
    · subst c; rw [upd_same]; exact fun z => nomatch z
    · rw [upd_ne c]; exact ha
  · have hj1 : j ∉ vs := fun z => hj (List.mem_append_left _ z)
    exact ⟨wipeR_ne hj1, wipeF_ne hj1, fun a ha o ho => by
      show upd T.H Dn _ a = _
      rw [upd_ne (ne_of_none ho hD)]; exact ho⟩
  rintro i n _ ⟨hn, U, acc, va, hσ, rfl, okU, tU, chU, hva, dva, gU, fU, iU, nU⟩
  obtain ⟨h1, h2, h3⟩ := hJ U.G U.H tU.stp.gext okU.ext i
  by_cases c : i < ds.length
  · refine .inr ⟨h1 c, fun H' => ∃ (U : Sta) (acc : List D) (va : List V), U.σ = wipe S.σ vs ∧ U.H = H' ∧ U.ok K ∧ T.to U ∧ Tch (vs ++ q) T U ∧ H' Dn = some (.lst va) ∧ DtA K U.G va acc ∧ U.G Dn = none ∧ ¬ Ow U.f Dn ∧ I (i + 1) acc U.ρ ∧ (∀ v ∈ vs, ∀ x, U.ρ[v]? ≠ some (some x)), fun H' hV => ⟨n - 1, by omega, by omega, hV⟩, fun x H2 hy => ?_⟩
    have hd : ds[i]? = some ds[i] := List.getElem?_eq_getElem c
    obtain ⟨G2, gr, dx⟩ := h3 x H2 ds[i] hy hd
    have hDn : U.H Dn ≠ none := by rw [hva]; exact fun z => nomatch z
    have turn := istep i _ acc U.ρ hd iU
    refine ⟨U.at G2 H2, ds[i], _, hσ, rfl, Sta.grow okU gr, dx, turn, fun A eA okA tA chA hs hl => ?_⟩
    have hsA : wipe A.σ vs = wipe S.σ vs := by
      have h9 : wipe A.σ vs = wipe (wipe S.σ vs) vs := wipe_eq (fun j hj => by rw [← hσ]; exact hs j hj) (by rw [← hσ]; exact hl)
      rw [h9]
      exact wipe_eq (fun j hj => wipe_ne hj) (wipe_length _ _)
    refine ⟨hsA, A, _, rfl, rfl, okA, eA, fun p4 b B eB esB okB tB chB b' hb => ?_, fun _ _ _ z => z.elim⟩
    subst hb
    have tUA : U.to A := gr.to.trans tA
    have tUB : U.to B := tUA.trans tB
    have keepD : ∀ V : Sta, V.ok K → U.to V → V.H Dn = some (.lst va) ∧ V.G Dn = none ∧ ¬ Ow V.f Dn := fun V okV tV => ⟨tV.stp.keep Dn _ hva fU, by rw [tV.stp.gold Dn hDn fU]; exact gU, fun z => (tV.stp.fnew Dn z).elim fU hDn⟩
    have chUA : Tch vs U A := by
      have := gr.tch.trans chA
      exact this
    cases b' with
    | true =>
      rw [if_pos rfl, ← esB]
      refine te_fz ⟨B, _, rfl, rfl, okB, eB.2, fun p5 x V eV esV okV tV chV y hy => ?_, fun _ _ _ z => z.elim⟩
      obtain ⟨⟨s5, fz5, sz5⟩, eV⟩ := eV
      obtain ⟨k5, d5⟩ := x
      cases k5 with
      | bor i p m => cases fz5
      | new m => cases fz5
      | fz =>
        have tUV : U.to V := tUB.trans tV
        obtain ⟨q1, q2, q3⟩ := keepD V okV tUV
        refine ⟨va, q1, ?_, ?_⟩
        · have e9 : va.length = acc.length := dva.len
          rw [e9]
          exact Nat.lt_of_lt_of_le (Nat.lt_succ_self _) (small_sz sz5)
        refine ⟨⟨V.pin, V.G, upd V.H Dn (.lst (va ++ [y])), wipe S.σ vs, wipeR V.ρ vs, wipeF V.f vs⟩, acc ++ [d5], va ++ [y], rfl, rfl, ?_, ⟨⟨(tU.trans tUV).stp.gext, fun a o ha hf => ?_, (tU.trans tUV).stp.gold, fun a ⟨j, hj⟩ => (tU.trans tUV).stp.fnew a ⟨j, wipeF_sub hj⟩, fun a ha => ?_⟩, (tU.trans tUV).pin⟩, fun j hj => ?_, upd_same, (dva.mono tUV.stp.gext).append (.cons hy .nil), q2, fun ⟨j, hj⟩ => q3 ⟨j, wipeF_sub hj⟩, eV, fun v hv x => wipeR_none hv⟩
        · refine Sx.aside ((Sx.wipe okV vs).slots ?_ fun i x hx => ?_) q2 fun ⟨j, hj⟩ => q3 ⟨j, wipeF_sub hj⟩
          · rw [wipe_length, esV, esB, ← wipe_length A.σ vs, hsA, wipe_length]
          · have ni : i ∉ vs := fun z => wipeR_none z hx
            rw [← hsA, wipe_ne ni, esV, esB]
        · show upd V.H Dn _ a = _
          rw [upd_ne (ne_of_none ha hD)]
          exact (tU.trans tUV).stp.keep a o ha hf
        · show upd V.H Dn _ a ≠ none
          by_cases c : a = Dn
          · subst c; rw [upd_same]; exact fun z => nomatch z
          · rw [upd_ne c]; exact (tU.trans tUV).stp.trk a ha
        · have j1 : j ∉ vs := fun z => hj (List.mem_append_left _ z)
          have j2 : j ∉ q := fun z => hj (List.mem_append_right _ z)
          have c1 := chU j hj
          have c2 := chUA j j1
          have c3 := chB j fun z => j2 (subL_of eB.1 j z)
          have c4 := chV j fun z => j2 (subL_of s5 j z)
          refine ⟨?_, ?_, fun a ha o ho => ?_⟩
          · show (wipeR V.ρ vs)[j]? = _
            rw [wipeR_ne j1, c4.1, c3.1, c2.1, c1.1]
          · show wipeF V.f vs j = _
            rw [wipeF_ne j1, c4.2.1, c3.2.1, c2.2.1, c1.2.1]
          · show upd V.H Dn _ a = _
            rw [upd_ne (ne_of_none ho hD)]
            refine c4.2.2 a ?_ o (c3.2.2 a ?_ o (c2.2.2 a ?_ o (c1.2.2 a ha o ho)))
            · rw [c3.2.1, c2.2.1, c1.2.1]; exact ha
            · rw [c2.2.1, c1.2.1]; exact ha
            · rw [c1.2.1]; exact ha
    | false =>
      rw [if_neg Bool.false_ne_true]
      obtain ⟨q1, q2, q3⟩ := keepD B okB tUB
      refine ⟨⟨B.pin, B.G, B.H, wipe S.σ vs, wipeR B.ρ vs, wipeF B.f vs⟩, acc, va, rfl, rfl, ?_, ⟨⟨(tU.trans tUB).stp.gext, (tU.trans tUB).stp.keep, (tU.trans tUB).stp.gold, fun a ⟨j, hj⟩ => (tU.trans tUB).stp.fnew a ⟨j, wipeF_sub hj⟩, (tU.trans tUB).stp.trk⟩, (tU.trans tUB).pin⟩, fun j hj => ?_, q1, dva.mono tUB.stp.gext, q2, fun ⟨j, hj⟩ => q3 ⟨j, wipeF_sub hj⟩, eB.2, fun v hv x => wipeR_none hv⟩
      · refine (Sx.wipe okB vs).slots ?_ fun i x hx => ?_
        · rw [wipe_length, esB, ← wipe_length A.σ vs, hsA, wipe_length]
        · have ni : i ∉ vs := fun z => wipeR_none z hx
          rw [← hsA, wipe_ne ni, esB]
      · have j1 : j ∉ vs := fun z => hj (List.mem_append_left _ z)
        have j2 : j ∉ q := fun z => hj (List.mem_append_right _ z)
        have c1 := chU j hj
        have c2 := chUA j j1
        have c3 := chB j fun z => j2 (subL_of eB.1 j z)
        refine ⟨?_, ?_, fun a ha o ho => ?_⟩
        · show (wipeR B.ρ vs)[j]? = _
          rw [wipeR_ne j1, c3.1, c2.1, c1.1]
        · show wipeF B.f vs j = _
          rw [wipeF_ne j1, c3.2.1, c2.2.1, c1.2.1]
        · refine c3.2.2 a ?_ o (c2.2.2 a ?_ o (c1.2.2 a ha o ho))
          · rw [c2.2.1, c1.2.1]; exact ha
          · rw [c1.2.1]; exact ha
  · have hi : i = ds.length := by omega
    refine .inl ⟨h2 (by omega), ?_⟩
    have okE : Sx K U.pin U.G U.H S.σ U.ρ U.f := Sx.slots okU (by rw [hσ, wipe_length]) fun i x hx => by
      rw [hσ]
      exact (wipe_ne fun z => nU i z x hx).symm
    refine k _ _ ⟨U.pin, U.G, U.H, S.σ, U.ρ, U.f⟩ (iend acc U.ρ (by rw [← hi]; exact iU)) rfl okE ⟨(tT.trans tU).stp, (tT.trans tU).pin⟩ ?_ (.ref Dn) ⟨[Dn], .L hva (RA.of_dt dva), by simp, fun a ha => ?_⟩
    · exact fun j hj => (pr.trans chU) j hj
    · have e9 : a = Dn := by simpa using ha
      subst e9
      exact ⟨gU, fU, .inr (tT.stp.free hD)⟩
end
end VL

namespace VL
open PySem PySem.Spec PyProof.Rows L2 RT RZ
section
variable {K : PySem.W.Frag} {W : WX} {G G' H H' H0 : Hp} {σ : L2.St} {ρ : Rho} {f f' : Own} {pin : Nat → Option V} {X : Cx} {S S0 S1 T T1 T2 U : Sta} {E : En} {Z : Ends}
/-! ### sources of items -/
/-- a list or a tuple -/
def iSeq (K : PySem.W.Frag) (tl : TE) : TI := fun σ H R => tl σ H fun x H1 => ∃ a xs, x = .ref a ∧ ((SqL K H1 a xs ∧ R (Itl K a) H1) ∨ (SqT K H1 a xs ∧ R (Itt K a) H1))
theorem pi_seq {tg l : Expr} {tl : TE} (hl : PE X l tl) : PI X tg l (iSeq X.K tl) := by
  refine ⟨fun pins s σ H R I h => ?_⟩
  refine thn (hl.run pins s σ H _ I h) fun v s1 ⟨x, H1, I1, r1, q1⟩ => ?_
  obtain ⟨a, xs, e, q1⟩ := q1
  subst e
  cases r1
  rcases q1 with ⟨hq, q⟩ | ⟨hq, q⟩
  · obtain ⟨its, rv, p, hz⟩ := I1.list hq
    refine wpAny_pyIter_list p.isList ?_
    exact pi_one (tk := s1.toks) I1 _ (turn_list a _) ⟨_, Heap.get?_push_size _ rfl, rfl, rfl⟩ q
  · obtain ⟨its, rv, p, hz⟩ := I1.tuple hq
    refine wpAny_pyIter_tuple (show s1.heap.IsTuple a its.toArray from p) ?_
    exact pi_one (tk := s1.toks) I1 _ (turn_tuple a _) ⟨_, Heap.get?_push_size _ rfl, rfl, rfl⟩ q
theorem DtA.at {vs ds} (h : DtA K G vs ds) (e : Ex G G') {i : Nat} {d : D} (hd : ds[i]? = some d) {x : V} (hx : vs[i]? = some x) : Dt K G' x d := by
  obtain ⟨v, e1, h1⟩ := h.get hd
  rw [e1] at hx; cases hx
  exact h1.mono e
theorem DtA.lt {vs ds} (h : DtA K G vs ds) {i : Nat} (hi : i < ds.length) : ∃ x, vs[i]? = some x := ⟨vs[i]'(by rw [h.len]; exact hi), List.getElem?_eq_getElem _⟩
theorem src_list {a : Addr} {xs : List V} {ds : List D} (h : SqL K G a xs) (hd : DtA K G xs ds) : Src K G (Itl K a) ds := fun G1 H1 e1 e2 i => by
  have h1 := e2.l (e1.l h)
  refine ⟨fun hi => ?_, fun hi => ⟨xs, h1, by rw [hd.len]; exact hi⟩, fun x H2 d hy he => ?_⟩
  · obtain ⟨x, hx⟩ := hd.lt hi
    exact ⟨xs, x, h1, hx⟩
  · obtain ⟨rfl, hy⟩ := hy
    exact ⟨G1, Grow.refl e2, hd.at e1 he (hy xs h1)⟩
theorem src_tup {a : Addr} {xs : List V} {ds : List D} (h : SqT K G a xs) (hd : DtA K G xs ds) : Src K G (Itt K a) ds := fun G1 H1 e1 e2 i => by
  have h1 := e2.t (e1.t h)
  refine ⟨fun hi => ?_, fun hi => ⟨xs, h1, by rw [hd.len]; exact hi⟩, fun x H2 d hy he => ?_⟩
  · obtain ⟨x, hx⟩ := hd.lt hi
    exact ⟨xs, x, h1, hx⟩
  · obtain ⟨rfl, hy⟩ := hy
    exact ⟨G1, Grow.refl e2, hd.at e1 he (hy xs h1)⟩
/-- what is walked must be frozen, or is frozen by it -/
def seqK (x : Kd × D) (q : List D → Prop) : Prop := match x with
  | (.fz, .lst ds) => q ds
  | (.fz, .tup ds) => q ds
  | _ => False
def wIt (we : DE (Kd × D)) : DE (List D) := fun ρ P => wFz we ρ ⟨fun p x ρ' => seqK x fun ds => P.ok p ds ρ', P.ex⟩
theorem seqK_of {x : Kd × D} {q : List D → Prop} (h : seqK x q) : ∃ ds, q ds ∧ (x = (.fz, .lst ds) ∨ x = (.fz, .tup ds)) := by
  unfold seqK at h
  split at h
  · exact ⟨_, h, .inl rfl⟩
  · exact ⟨_, h, .inr rfl⟩
  · exact h.elim
theorem ti_seq {we : DE (Kd × D)} {R : It → Hp → Prop} (h : ti K W (wIt we) σ H R) : iSeq K (te K W we) σ H R := by
  obtain ⟨S, P, rfl, rfl, ok, w, k, ex⟩ := h
  unfold iSeq
  refine te_fz ⟨S, _, rfl, rfl, ok, w, fun p x T e es okT t tc v hv => ?_, ex⟩
  have e : seqK x (fun ds => P.ok p ds T.ρ) := e
  obtain ⟨ds, q, rfl | rfl⟩ := seqK_of e
  · cases hv with
    | lst hl ha => exact ⟨_, _, rfl, .inl ⟨L2.SqL.of (okT.ext _ _ hl), k _ _ T q es okT t tc _ (src_list (.of hl) ha)⟩⟩
  · cases hv with
    | tup hl ha => exact ⟨_, _, rfl, .inr ⟨okT.ext.t hl, k _ _ T q es okT t tc _ (src_tup hl ha)⟩⟩
theorem qi_seq {tg e : Expr} {we : DE (Kd × D)} (he : PE X e (te X.K W we)) : PI X tg e (ti X.K W (wIt we)) := PI.imp (pi_seq he) fun _ _ _ h => ti_seq h
/-! ### range -/
def rangeD (lo : Int) (n : Nat) : List D := (List.range n).map fun i => .int (lo + (i : Nat))
theorem rangeD_len {lo : Int} {n : Nat} : (rangeD lo n).length = n := by simp [rangeD]
theorem rangeD_get {lo : Int} {n i : Nat} {d : D} (h : (rangeD lo n)[i]? = some d) : i < n ∧ d = .int (lo + (i : Nat)) := by
  have hi : i < n := by
    have := (List.getElem?_eq_some_iff.mp h).1
    rwa [rangeD_len] at this
  refine ⟨hi, ?_⟩
  simp [rangeD, hi] at h
  exact h.symm
theorem src_range {lo : Int} {n : Nat} : Src K G (Itr lo n) (rangeD lo n) := fun G1 H1 e1 e2 i => by
  refine ⟨fun hi => by rw [rangeD_len] at hi; exact hi, fun hi => by rw [rangeD_len] at hi; exact hi, fun x H2 d hy he => ?_⟩
  obtain ⟨rfl, rfl⟩ := hy
  obtain ⟨_, rfl⟩ := rangeD_get he
  exact ⟨G1, Grow.refl e2, .int _⟩
def inR (j : Int) : Prop := -(2 ^ 62) ≤ j ∧ j < 2 ^ 62
def rng1 (xs : List (Kd × D)) (q : List D → Prop) : Prop := match xs with
  | [(_, .int j)] => inR j ∧ q (rangeD 0 j.toNat)
  | _ => False
def rng2 (xs : List (Kd × D)) (q : List D → Prop) : Prop := match xs with
  | [(_, .int i), (_, .int j)] => (inR i ∧ inR j) ∧ q (rangeD i (j - i).toNat)
  | _ => False
theorem rng1_of {xs : List (Kd × D)} {q : List D → Prop} (h : rng1 xs q) : ∃ k j, xs = [(k, .int j)] ∧ inR j ∧ q (rangeD 0 j.toNat) := by
  unfold rng1 at h
  split at h
  · exact ⟨_, _, rfl, h⟩
  · exact h.elim
def wRng1 (wa : DE (List (Kd × D))) : DE (List D) := fun ρ P => wa ρ ⟨fun p xs ρ' => rng1 xs fun ds => P.ok p ds ρ', P.ex⟩
def wRng2 (wa : DE (List (Kd × D))) : DE (List D) := fun ρ P => wa ρ ⟨fun p xs ρ' => rng2 xs fun ds => P.ok p ds ρ', P.ex⟩
theorem ti_rng1 {wa : DE (List (Kd × D))} {R : It → Hp → Prop} (h : ti K W (wRng1 wa) σ H R) : iRng1 (ta K W wa) σ H R := by
  obtain ⟨S, P, rfl, rfl, ok, w, k, ex⟩ := h
  refine ⟨S, _, rfl, rfl, ok, w, fun p xs T e es okT t tc vs hv => ?_, ex⟩
  have e : rng1 xs (fun ds => P.ok p ds T.ρ) := e
  obtain ⟨kd, j, rfl, hj, q⟩ := rng1_of e
  cases hv with
  | cons h1 hv =>
    cases hv
    obtain rfl := h1.int_inv okT
    exact ⟨j, rfl, hj.1, hj.2, k _ _ T q es okT t tc _ src_range⟩
section
variable {tg a b : Expr} {wa : DE (List (Kd × D))} {p pos : Pos}
theorem qi_range1 (hm : X.mg "range" = none) (ha : PA X [a] (ta X.K W wa)) (hg : Gl X "range" := by rfl) (hs : starEach [a] X.env = [(false, eval a X.env)] := by rfl) : PI X tg (.Call (.Name "range" p) [a] [] pos) (ti X.K W (wRng1 wa)) :=
  PI.imp (pi_range1 hg hm ha hs) fun _ _ _ h => ti_rng1 h
end
/-! ### enumerate, zip, reversed -/
def enumD (ds : List D) : List D := (List.range ds.length).map fun i => .tup [.int (i : Nat), ds.getD i .non]
def zipD (xs ys : List D) : List D := (xs.zip ys).map fun z => .tup [z.1, z.2]
theorem enumD_len {ds : List D} : (enumD ds).length = ds.length := by simp [enumD]
theorem zipD_len {xs ys : List D} : (zipD xs ys).length = min xs.length ys.length := by simp [zipD]
theorem enumD_get {ds : List D} {i : Nat} {d : D} (h : (enumD ds)[i]? = some d) : ∃ x, ds[i]? = some x ∧ d = .tup [.int (i : Nat), x] := by
  have hi : i < ds.length := by
    have := (List.getElem?_eq_some_iff.mp h).1
    rwa [enumD_len] at this
  refine ⟨ds[i], List.getElem?_eq_getElem hi, ?_⟩
  simp [enumD, hi] at h
  exact h.symm
theorem zipD_get {xs ys : List D} {i : Nat} {d : D} (h : (zipD xs ys)[i]? = some d) : ∃ x y, xs[i]? = some x ∧ ys[i]? = some y ∧ d = .tup [x, y] := by
  simp only [zipD, List.getElem?_map, Option.map_eq_some_iff] at h
  obtain ⟨⟨x, y⟩, hz, rfl⟩ := h
  obtain ⟨h1, h2⟩ := List.getElem?_zip_eq_some.mp hz
  exact ⟨x, y, h1, h2, rfl⟩
theorem DtA.pair {p : Addr} {x y : V} {dx dy : D} (e : G p = none) (hx : Dt K G x dx) (hy : Dt K G y dy) : Dt K (upd G p (.tup [x, y])) (.ref p) (.tup [dx, dy]) := Dt.tup_new (.cons hx (.cons hy .nil)) e
theorem src_enum {a : Addr} {xs : List V} {ds : List D} (h : SqL K G a xs) (hd : DtA K G xs ds) : Src K G (Ite K a) (enumD ds) := fun G1 H1 e1 e2 i => by
  have h1 := e2.l (e1.l h)
  rw [enumD_len]
  refine ⟨fun hi => ?_, fun hi => ⟨xs, h1, by rw [hd.len]; exact hi⟩, fun x H2 d hy he => ?_⟩
  · obtain ⟨x, hx⟩ := hd.lt hi
    exact ⟨xs, x, h1, hx⟩
  · obtain ⟨T, v, rfl, hT, rfl, hv⟩ := hy
    obtain ⟨d1, he', rfl⟩ := enumD_get he
    exact ⟨_, Grow.new e2 hT, DtA.pair (e2.free hT) (.int _) (hd.at e1 he' (hv xs h1))⟩
theorem src_zip {a b : Addr} {xs ys : List V} {ds es : List D} (h : SqL K G a xs) (hd : DtA K G xs ds) (h' : SqL K G b ys) (hd' : DtA K G ys es) : Src K G (Itz K a b) (zipD ds es) := fun G1 H1 e1 e2 i => by
  have h1 := e2.l (e1.l h)
  have h2 := e2.l (e1.l h')
  rw [zipD_len]
  refine ⟨fun hi => ?_, fun hi => ⟨xs, ys, h1, h2, by rw [hd.len, hd'.len]; omega⟩, fun x H2 d hy he => ?_⟩
  · obtain ⟨x, hx⟩ := hd.lt (i := i) (by omega)
    obtain ⟨y, hy⟩ := hd'.lt (i := i) (by omega)
    exact ⟨xs, ys, x, y, h1, h2, hx, hy⟩
  · obtain ⟨T, v, u, rfl, hT, rfl, hv, hu⟩ := hy
    obtain ⟨d1, d2, he1, he2, rfl⟩ := zipD_get he
    exact ⟨_, Grow.new e2 hT, DtA.pair (e2.free hT) (hd.at e1 he1 (hv xs h1)) (hd'.at e1 he2 (hu ys h2))⟩
theorem src_zipT {a b : Addr} {xs ys : List V} {ds es : List D} (h : SqT K G a xs) (hd : DtA K G xs ds) (h' : SqT K G b ys) (hd' : DtA K G ys es) : Src K G (ItzT K a b) (zipD ds es) := fun G1 H1 e1 e2 i => by
  have h1 := e2.t (e1.t h)
  have h2 := e2.t (e1.t h')
  rw [zipD_len]
  refine ⟨fun hi => ?_, fun hi => ⟨xs, ys, h1, h2, by rw [hd.len, hd'.len]; omega⟩, fun x H2 d hy he => ?_⟩
  · obtain ⟨x, hx⟩ := hd.lt (i := i) (by omega)
    obtain ⟨y, hy⟩ := hd'.lt (i := i) (by omega)
    exact ⟨xs, ys, x, y, h1, h2, hx, hy⟩
  · obtain ⟨T, v, u, rfl, hT, rfl, hv, hu⟩ := hy
    obtain ⟨d1, d2, he1, he2, rfl⟩ := zipD_get he
    exact ⟨_, Grow.new e2 hT, DtA.pair (e2.free hT) (hd.at e1 he1 (hv xs h1)) (hd'.at e1 he2 (hu ys h2))⟩
def wRev (we : DE (Kd × D)) : DE (List D) := fun ρ P => wFz we ρ ⟨fun p x ρ' => seqK x fun ds => P.ok p ds.reverse ρ', P.ex⟩
def isL1 (xs : List (Kd × D)) (q : List D → Prop) : Prop := match xs with
  | [(.fz, .lst ds)] => q ds
  | _ => False
theorem isL1_of {xs : List (Kd × D)} {q : List D → Prop} (h : isL1 xs q) : ∃ ds, xs = [(.fz, .lst ds)] ∧ q ds := by
  unfold isL1 at h
  split at h
  · exact ⟨_, rfl, h⟩
  · exact h.elim
def isL2 (xs : List (Kd × D)) (q : List D → List D → Prop) : Prop := match xs with
  | [(.fz, .lst ds), (.fz, .lst es)] => q ds es
  | [(.fz, .tup ds), (.fz, .tup es)] => q ds es
  | _ => False
theorem isL2_of {xs : List (Kd × D)} {q : List D → List D → Prop} (h : isL2 xs q) : ∃ ds es, q ds es ∧ (xs = [(.fz, .lst ds), (.fz, .lst es)] ∨ xs = [(.fz, .tup ds), (.fz, .tup es)]) := by
  unfold isL2 at h
  split at h
  · exact ⟨_, _, h, .inl rfl⟩
  · exact ⟨_, _, h, .inr rfl⟩
  · exact h.elim
def wEnum (wa : DE (List (Kd × D))) : DE (List D) := fun ρ P => wa ρ ⟨fun p xs ρ' => isL1 xs fun ds => P.ok p (enumD ds) ρ', P.ex⟩
def wZip (wa : DE (List (Kd × D))) : DE (List D) := fun ρ P => wa ρ ⟨fun p xs ρ' => isL2 xs fun ds es => P.ok p (zipD ds es) ρ', P.ex⟩
theorem ti_enum {wa : DE (List (Kd × D))} {R : It → Hp → Prop} (h : ti K W (wEnum wa) σ H R) : iEnum K (ta K W wa) σ H R := by
  obtain ⟨S, P, rfl, rfl, ok, w, k, ex⟩ := h
  refine ⟨S, _, rfl, rfl, ok, w, fun p xs T e es okT t tc vs hv => ?_, ex⟩
  have e : isL1 xs (fun ds => P.ok p (enumD ds) T.ρ) := e
  obtain ⟨ds, rfl, q⟩ := isL1_of e
  cases hv with
  | cons h1 hv =>
    cases hv
    cases h1 with
    | lst hl ha => exact ⟨_, _, rfl, L2.SqL.of (okT.ext _ _ hl), k _ _ T q es okT t tc _ (src_enum (.of hl) ha)⟩
theorem ti_zip {wa : DE (List (Kd × D))} {R : It → Hp → Prop} (h : ti K W (wZip wa) σ H R) : iZipA K (ta K W wa) σ H R := by
  obtain ⟨S, P, rfl, rfl, ok, w, k, ex⟩ := h
  refine ⟨S, _, rfl, rfl, ok, w, fun p xs T e es okT t tc vs hv => ?_, ex⟩
  have e : isL2 xs (fun ds es => P.ok p (zipD ds es) T.ρ) := e
  obtain ⟨ds, fs, q, rfl | rfl⟩ := isL2_of e
  · cases hv with
    | cons h1 hv =>
      cases hv with
      | cons h2 hv =>
        cases hv
        cases h1 with
        | lst hl ha =>
          cases h2 with
          | lst hl' ha' => exact ⟨_, _, _, _, rfl, .inl ⟨L2.SqL.of (okT.ext _ _ hl), L2.SqL.of (okT.ext _ _ hl'), k _ _ T q es okT t tc _ (src_zip (.of hl) ha (.of hl') ha')⟩⟩
  · cases hv with
    | cons h1 hv =>
      cases hv with
      | cons h2 hv =>
        cases hv
        cases h1 with
        | tup hl ha =>
          cases h2 with
          | tup hl' ha' => exact ⟨_, _, _, _, rfl, .inr ⟨okT.ext.t hl, okT.ext.t hl', k _ _ T q es okT t tc _ (src_zipT hl ha hl' ha')⟩⟩
section
variable {tg a b : Expr} {we : DE (Kd × D)} {wa : DE (List (Kd × D))} {p pos tpos : Pos} {elts : List Expr} {kk : Nat}
theorem qi_enum (hm : X.mg "enumerate" = none) (ha : PA X [a] (ta X.K W wa)) (hg : Gl X "enumerate" := by rfl) (hs : starEach [a] X.env = [(false, eval a X.env)] := by rfl) : PI X (.Tuple elts kk tpos) (.Call (.Name "enumerate" p) [a] [] pos) (ti X.K W (wEnum wa)) :=
  PI.imp (pi_enum hg hm ha hs) fun _ _ _ h => ti_enum h
theorem qi_zip (hm : X.mg "zip" = none) (ha : PA X [a, b] (ta X.K W wa)) (hg : Gl X "zip" := by rfl) (hs : starEach [a, b] X.env = (false, eval a X.env) :: starEach [b] X.env := by rfl) (hpl : (backTo pos (starEach [b] X.env)).any (·.1) = false := by rfl) :
    PI X (.Tuple elts kk tpos) (.Call (.Name "zip" p) [a, b] [] pos) (ti X.K W (wZip wa)) := PI.imp (pi_zipA hg hm ha hs hpl) fun _ _ _ h => ti_zip h
end
/-! ### comprehensions -/
def wYes : DE Bool := fun ρ P => P.ok [] true ρ
def wPtOne (t : DE Bool) : DE Bool := t
theorem tt_yes {Q : Bool → Hp → Prop} (h : tt K W wYes σ H Q) : tYes σ H Q := by
  obtain ⟨S, P, rfl, rfl, ok, w, k, _⟩ := h
  exact k _ _ S w rfl ok (Sta.refl S) (Tch.refl S _) _ rfl
theorem PTs.imp {e : List Expr} {t t' : TT} (h : PTs X e t) (k : ∀ σ H Q, t' σ H Q → t σ H Q) : PTs X e t' := ⟨fun pins s σ H Q I q => h.run pins s σ H Q I (k σ H Q q)⟩
theorem q_tsnil : PTs X [] (tt X.K W wYes) := PTs.imp pts_nil fun _ _ _ h => tt_yes h
theorem q_tsone {c : Expr} {w : DE Bool} (h : PT X c (tt X.K W w)) : PTs X [c] (tt X.K W w) := pts_one h
section
variable {elt tg iter : Expr} {ifs : List Expr} {scope : Scope} {own : List (Str × Nat)} {pos : Pos} {wi : DE (List D)} {g : DG} {t : DE Bool} {we : DE (Kd × D)}
theorem q_lc (q : List Nat) (hc : X.calm = true) (hN : X.N.Nodup) (hi : PI X tg iter (ti X.K W wi)) (ok : BlkOk X.N X.env.scope scope own)
    (hg : ∀ (s : Shared) (H : Hp) (C : Addr) (cl : List (Str × Addr)) (fp : List Addr), PG (X.blk s H scope (compEnvC scope cl C X.env) fp) tg (VL.tg X.K (own.map (·.2)) g)) (ht : ∀ (s : Shared) (H : Hp) (C : Addr) (cl : List (Str × Addr)) (fp : List Addr), PTs (X.blk s H scope (compEnvC scope cl C X.env) fp) ifs (tt X.K (fun _ _ _ _ => False) t))
    (he : ∀ (s : Shared) (H : Hp) (C : Addr) (cl : List (Str × Addr)) (fp : List Addr), PE (X.blk s H scope (compEnvC scope cl C X.env) fp) elt (te X.K (fun _ _ _ _ => False) we)) (hs : ∀ x, foldedSetIterable iter X.env x = pure x := by intro _; rfl) :
    PE X (.ListComp elt [⟨tg, iter, ifs, 0⟩] scope pos) (te X.K W (wLc wi g t we (own.map (·.2)) q)) := PE.imp (pe_lc hc hN hi ok hg ht he hs) fun _ _ _ h => te_lc h
end
end
end VL

namespace VL
open PySem PySem.Spec PyProof.Rows L2
section
variable {K : PySem.W.Frag} {W : WX} {G G' H H' H0 : Hp} {σ : L2.St} {ρ : Rho} {f f' : Own} {pin : Nat → Option V} {X : Cx} {S S0 S1 T T1 T2 U : Sta} {E : En} {Z : Ends}
/-! ### a thing in a slot is changed -/
theorem mut_state {i : Nat} {p : List Nat} {m : Md} {a : Addr} {o' : HO} {d d' : D} {fq fq' : List Addr} (ok : T.ok K) (l : Lent K T i p m (.ref a) d fq) (ha : a ∈ fq) (r : R K T.G (upd T.H a o') m (.ref a) d' fq') (n : fq'.Nodup) (s : ∀ b ∈ fq', b ∈ fq) :
    ∃ f2 : Own, Sx K T.pin T.G (upd T.H a o') T.σ (setAt T.ρ i p d') f2 ∧ T.to ⟨T.pin, T.G, upd T.H a o', T.σ, setAt T.ρ i p d', f2⟩ ∧ Tch [i] T ⟨T.pin, T.G, upd T.H a o', T.σ, setAt T.ρ i p d', f2⟩ := by
  obtain ⟨m0, d0, v0, h1, h2, hb⟩ := l.back
  have hai : a ∈ T.f i := l.sub a ha
  obtain ⟨fr, r2, n2, s2⟩ := hb T.G (upd T.H a o') d' fq' (Ex.refl _) (fun b _ hn => upd_ne fun z : b = a => hn (by rw [z]; exact ha)) r n (fun b hb => .inl (s b hb))
  have frs : ∀ b ∈ fr, b ∈ T.f i := fun b hb => by
    rcases s2 b hb with q | q
    · exact q.1
    · exact l.sub b (s b q)
  have ga : T.G a = none := ok.out i a hai
  have oth : ∀ j, j ≠ i → ∀ b ∈ T.f j, upd T.H a o' b = T.H b := fun j c b hb => upd_ne fun z : b = a => c (ok.dj j i b hb (by rw [z]; exact hai))
  refine ⟨T.f.set i fr, ?_, ⟨⟨Ex.refl _, fun b o ho hn => ?_, fun _ _ _ => rfl, fun b ⟨j, hj⟩ => .inl ?_, fun b hb => ?_⟩, rfl⟩, fun j hj => ?_⟩
  · exact {
      ext := fun b u e => by rw [upd_ne (ne_of_none e ga)]; exact ok.ext b u e
      len := by rw [setAt_len]; exact ok.len
      slot := fun j m' d1 e => by
        by_cases c : j = i
        · subst c
          rw [setAt_eq h1] at e; cases e
          exact ⟨v0, h2, by rw [Own.set_same]; exact r2⟩
        · rw [setAt_ne c] at e
          obtain ⟨u, g1, g2⟩ := ok.slot j m' d1 e
          exact ⟨u, g1, by rw [Own.set_ne c]; exact g2.keep (Ex.refl _) fun b hb o ho => by rw [oth j c b hb]; exact ho⟩
      emp := fun j e => by
        by_cases c : j = i
        · subst c; exact absurd (setAt_eq h1) (e _ _)
        · rw [Own.set_ne c]; exact ok.emp j fun m' d1 q => e m' d1 (by rw [setAt_ne c]; exact q)
      nd := fun j => by
        by_cases c : j = i
        · subst c; rw [Own.set_same]; exact n2
        · rw [Own.set_ne c]; exact ok.nd j
      dj := fun j j' b h h' => by
        have q : ∀ k, b ∈ T.f.set i fr k → b ∈ T.f k := fun k hk => by
          by_cases c : k = i
          · subst c; rw [Own.set_same] at hk; exact frs b hk
          · rw [Own.set_ne c] at hk; exact hk
        exact ok.dj _ _ b (q j h) (q j' h')
      out := fun j b h => by
        by_cases c : j = i
        · subst c; rw [Own.set_same] at h; exact ok.out _ b (frs b h)
        · rw [Own.set_ne c] at h; exact ok.out j b h
      pins := fun j m' d1 e => by
        by_cases c : j = i
        · subst c
          rw [setAt_eq h1] at e; cases e
          exact ok.pins j _ _ h1
        · rw [setAt_ne c] at e; exact ok.pins j m' d1 e }
  · show upd T.H a o' b = _
    rw [upd_ne fun z : b = a => hn ⟨i, by rw [z]; exact hai⟩]; exact ho
  · by_cases c : j = i
    · subst c
      have hj' : b ∈ T.f.set j fr j := hj
      rw [Own.set_same] at hj'; exact ⟨j, frs b hj'⟩
    · have hj' : b ∈ T.f.set i fr j := hj
      rw [Own.set_ne c] at hj'; exact ⟨j, hj'⟩
  · show upd T.H a o' b ≠ none
    by_cases c : b = a
    · subst c; rw [upd_same]; exact fun z => nomatch z
    · rw [upd_ne c]; exact hb
  · have c : j ≠ i := fun z => hj (by rw [z]; exact List.mem_cons_self)
    exact ⟨setAt_ne c, Own.set_ne c, fun b hb o ho => by
      show upd T.H a o' b = _
      rw [oth j c b hb]; exact ho⟩
/-! ### fields -/
theorem DtF.names : ∀ {fs : List (Str × V)} {ds : List (Str × D)}, DtF K G fs ds → fs.map (·.1) = ds.map (·.1)
  | _, _, .nil => rfl
  | _, _, .cons h t => by simp [DtF.names t]
theorem RF.names : ∀ {ms : List Md} {fs : List (Str × V)} {ds : List (Str × D)} {fp : List Addr}, RF K G H ms fs ds fp → fs.map (·.1) = ds.map (·.1)
  | _, _, _, _, .nil => rfl
  | _, _, _, _, .cons h t => by simp [RF.names t]
theorem lookup_at {β : Type} : ∀ {fs : List (Str × β)} {j : Nat} {k : Str} {v : β}, (fs.map (·.1)).Nodup → fs[j]? = some (k, v) → fs.lookup k = some v
  | [], _, _, _, _, h => by simp at h
  | (k', v') :: fs, 0, k, v, _, h => by
    simp at h
    obtain ⟨rfl, rfl⟩ := h
    simp [List.lookup_cons]
  | (k', v') :: fs, j + 1, k, v, n, h => by
    rw [List.map_cons] at n
    have n' := List.nodup_cons.mp n
    have h' : fs[j]? = some (k, v) := by simpa using h
    have c : (k == k') = false := by
      rw [beq_eq_false_iff_ne]
      rintro rfl
      exact n'.1 (List.mem_map.mpr ⟨(k, v), List.mem_of_getElem? h', rfl⟩)
    rw [List.lookup_cons, c]
    exact lookup_at n'.2 h'
theorem lookup_out {β : Type} : ∀ {fs : List (Str × β)} {k : Str}, k ∉ fs.map (·.1) → fs.lookup k = none
  | [], _, _ => rfl
  | (k', v') :: fs, k, h => by
    have c : (k == k') = false := by
      rw [beq_eq_false_iff_ne]
      rintro rfl
      exact h (by simp)
    rw [List.lookup_cons, c]
    exact lookup_out fun z => h (by simp only [List.map_cons, List.mem_cons]; exact .inr z)
theorem DtF.at : ∀ {fs : List (Str × V)} {ds : List (Str × D)} {j : Nat} {k : Str} {d : D}, DtF K G fs ds → ds[j]? = some (k, d) → ∃ v, fs[j]? = some (k, v) ∧ Dt K G v d
  | _, _, _, _, _, .nil, h => by simp at h
  | _, _, 0, _, _, .cons h t, e => by
    simp at e
    obtain ⟨rfl, rfl⟩ := e
    exact ⟨_, rfl, h⟩
  | _, _, j + 1, _, _, .cons h t, e => by
    obtain ⟨v, e1, h1⟩ := DtF.at t (j := j) (by simpa using e)
    exact ⟨v, by simpa using e1, h1⟩
theorem RF.at : ∀ {ms : List Md} {fs : List (Str × V)} {ds : List (Str × D)} {fp : List Addr} {j : Nat} {k : Str} {d : D}, RF K G H ms fs ds fp → ds[j]? = some (k, d) → ∃ v, fs[j]? = some (k, v)
  | _, _, _, _, _, _, _, .nil, h => by simp at h
  | _, _, _, _, 0, _, _, .cons h t, e => by
    simp at e
    obtain ⟨rfl, rfl⟩ := e
    exact ⟨_, rfl⟩
  | _, _, _, _, j + 1, _, _, .cons h t, e => by
    obtain ⟨v, e1⟩ := RF.at t (j := j) (by simpa using e)
    exact ⟨v, by simpa using e1⟩
/-- the field f, the j-th, of an instance of C -/
def fldK (C : Addr) (f : Str) (j : Nat) (x : Kd × D) (q : Kd × D → Prop) : Prop := match x with
  | (.fz, .obj C' fs) => C' = C ∧ match fs[j]? with
    | some (k, d) => k = f ∧ q (.fz, d)
    | none => False
  | (.bor i p (.O ms), .obj C' fs) => C' = C ∧ match fs[j]?, ms[j]? with
    | some (k, d), some m => k = f ∧ q (kAt i (p ++ [j]) m, d)
    | _, _ => False
  | _ => False
theorem fldK_of {C : Addr} {f : Str} {j : Nat} {x : Kd × D} {q : Kd × D → Prop} (h : fldK C f j x q) :
    ∃ fs d, fs[j]? = some (f, d) ∧ ((x = (.fz, .obj C fs) ∧ q (.fz, d)) ∨ ∃ i p ms m, x = (.bor i p (.O ms), .obj C fs) ∧ ms[j]? = some m ∧ q (kAt i (p ++ [j]) m, d)) := by
  unfold fldK at h
  split at h
  · obtain ⟨rfl, h⟩ := h
    split at h
    · rename_i e
      obtain ⟨rfl, h⟩ := h
      exact ⟨_, _, e, .inl ⟨rfl, h⟩⟩
    · exact h.elim
  · obtain ⟨rfl, h⟩ := h
    split at h
    · rename_i e e'
      obtain ⟨rfl, h⟩ := h
      exact ⟨_, _, e, .inr ⟨_, _, _, _, rfl, e', h⟩⟩
    · exact h.elim
  · exact h.elim
def wFld (C : Addr) (f : Str) (j : Nat) (we : DE (Kd × D)) : DE (Kd × D) := fun ρ P => we ρ ⟨fun p x ρ' => fldK C f j x fun z => P.ok p z ρ', P.ex⟩
theorem Rch.snoc_ins : ∀ {H : Hp} {v0 v x : V} {p : List Nat} {a C dx : Addr} {fs : List (Str × V)} {j : Nat} {k : Str}, Rch H v0 p v → v = .ref a → H a = some (.ins C dx fs) → fs[j]? = some (k, x) → Rch H v0 (p ++ [j]) x
  | _, _, _, _, _, _, _, _, _, _, _, .here, e, h, i => by subst e; exact .ins h i .here
  | _, _, _, _, _, _, _, _, _, _, _, .lst h1 i1 t, e, h, i => .lst h1 i1 (Rch.snoc_ins t e h i)
  | _, _, _, _, _, _, _, _, _, _, _, .ins h1 i1 t, e, h, i => .ins h1 i1 (Rch.snoc_ins t e h i)
  | _, _, _, _, _, _, _, _, _, _, _, .tup h1 i1 t, e, h, i => .tup h1 i1 (Rch.snoc_ins t e h i)
  | _, _, _, _, _, _, _, _, _, _, _, .dK h1 i1 t, e, h, i => .dK h1 i1 (Rch.snoc_ins t e h i)
theorem mAt_snoc : ∀ {p : List Nat} {m0 m m' : Md} {j : Nat}, mAt m0 p = some m → mKid m j = some m' → mAt m0 (p ++ [j]) = some m'
  | [], _, _, _, _, e, k => by
    simp [mAt] at e
    subst e
    simp [mAt, k]
  | i :: p, m0, _, _, _, e, k => by
    simp only [mAt] at e
    split at e
    · rename_i m1 e1
      show (match mKid m0 i with | some m' => mAt m' (p ++ _) | none => none) = _
      rw [e1]
      exact mAt_snoc e k
    · cases e
theorem dAt_snoc : ∀ {p : List Nat} {m0 m m' : D} {j : Nat}, dAt m0 p = some m → dKid m j = some m' → dAt m0 (p ++ [j]) = some m'
  | [], _, _, _, _, e, k => by
    simp [dAt] at e
    subst e
    simp [dAt, k]
  | i :: p, m0, _, _, _, e, k => by
    simp only [dAt] at e
    split at e
    · rename_i m1 e1
      show (match dKid m0 i with | some m' => dAt m' (p ++ _) | none => none) = _
      rw [e1]
      exact dAt_snoc e k
    · cases e
/-- the instance of a value of the kind bor i p (O ms) -/
theorem Has.ins (ok : T.ok K) {i : Nat} {p : List Nat} {ms : List Md} {v : V} {C : Addr} {fs : List (Str × D)} (h : Has K S0 T (.bor i p (.O ms)) v (.obj C fs)) : ∃ a dx vs fp, v = .ref a ∧ T.H a = some (.ins C dx vs) ∧ (fs.map (·.1)).Nodup ∧ RF K T.G T.H ms vs fs fp := by
  obtain ⟨fq, r, _⟩ := h.bor_R ok
  cases r with
  | O h n t => exact ⟨_, _, _, _, rfl, h, n, t⟩
theorem te_fld {C : Addr} {f : Str} {j : Nat} {we : DE (Kd × D)} {Q : VK} (c : Cls K C) (na : NoAttr K C f) (h : te K W (wFld C f j we) σ H Q) : tFld K (te K W we) f σ H Q := by
  obtain ⟨S, P, rfl, rfl, ok, w, k, ex⟩ := h
  refine ⟨S, _, rfl, rfl, ok, w, fun p x T e es okT t tc v hv => ?_, ex⟩
  have e : fldK C f j x (fun z => P.ok p z T.ρ) := e
  obtain ⟨fs, d, ej, ⟨rfl, q⟩ | ⟨i, pp, ms, m, rfl, em, q⟩⟩ := fldK_of e
  · cases hv with
    | obj hG n hf =>
      obtain ⟨y, e1, h1⟩ := hf.at ej
      exact ⟨_, _, _, _, y, rfl, okT.ext _ _ hG, c, na, lookup_at (by rw [hf.names]; exact n) e1, k _ _ T q es okT t tc y h1⟩
  · obtain ⟨a, dx, vs, fp, rfl, ha, n, hf⟩ := hv.ins okT
    obtain ⟨y, e1⟩ := hf.at ej
    obtain ⟨m0, d0, v0, h1, h2, h3, h4, h5⟩ := hv
    refine ⟨_, _, _, _, y, rfl, ha, c, na, lookup_at (by rw [hf.names]; exact n) e1, k _ _ T q es okT t tc y ?_⟩
    exact Has.of_at okT h1 h2 (Rch.snoc_ins h3 rfl ha e1) (mAt_snoc h4 em) (dAt_snoc h5 (by simp only [dKid, ej]))
theorem q_fld (C : Addr) (j : Nat) {e : Expr} {f : Str} {pos : Pos} {we : DE (Kd × D)} (c : Cls X.K C) (na : NoAttr X.K C f) (he : PE X e (te X.K W we)) (hb : attributeBase e f X.env (eval e X.env) = eval e X.env := by rfl) : PE X (.Attribute e f pos) (te X.K W (wFld C f j we)) :=
  PE.imp (pe_fld he hb) fun _ _ _ h => te_fld c na h
/-! ### a field is stored: the instance stands in a slot -/
def Md.re : Md → Md → Md
  | .P m, x => .P (m.re x)
  | _, x => x
theorem R.re : ∀ {m : Md} {v : V} {d : D} {fp : List Addr} {x : Md}, R K G H x v d fp → R K G H (m.re x) v d fp
  | .F, _, _, _, _, h => h
  | .L _, _, _, _, _, h => h
  | .K, _, _, _, _, h => h
  | .N, _, _, _, _, h => h
  | .M _, _, _, _, _, h => h
  | .O _, _, _, _, _, h => h
  | .T _, _, _, _, _, h => h
  | .A _, _, _, _, _, h => h
  | .P m, _, _, _, _, h => .P (R.re (m := m) h)
theorem Md.re_P {m x m1 : Md} (h : m.re x = .P m1) (hx : notP x = true) : ∃ m2, m = .P m2 := by
  cases m with
  | P m => exact ⟨m, rfl⟩
  | _ => simp [Md.re] at h; subst h; cases hx
/-- a slot keeps its thing, whose object is another now -/
theorem remode_state {i : Nat} {m0 m1 : Md} {a : Addr} {o' : HO} {d0 d1 : D} {fr : List Addr} (ok : T.ok K) (h1 : T.ρ[i]? = some (some (m0, d0))) (h2 : T.σ[i]? = some (some (.ref a))) (hai : a ∈ T.f i) (hm : notP m1 = true) (r : R K T.G (upd T.H a o') m1 (.ref a) d1 fr) (n : fr.Nodup) (s : ∀ b ∈ fr, b ∈ T.f i ∨ (T.G b = none ∧ ¬ Ow T.f b ∧ Nw S b)) (t : S.to T) :
    Sx K T.pin T.G (upd T.H a o') T.σ (T.ρ.set i (some (m0.re m1, d1))) (T.f.set i fr) ∧ S.to ⟨T.pin, T.G, upd T.H a o', T.σ, T.ρ.set i (some (m0.re m1, d1)), T.f.set i fr⟩ := by
  have ga : T.G a = none := ok.out i a hai
  have hlt := (List.getElem?_eq_some_iff.mp h1).1
  have oth : ∀ j, j ≠ i → ∀ b ∈ T.f j, upd T.H a o' b = T.H b := fun j c b hb => upd_ne fun z : b = a => c (ok.dj j i b hb (by rw [z]; exact hai))
  refine ⟨?_, ⟨⟨t.stp.gext, fun b o ho hn => ?_, t.stp.gold, fun b ⟨j, hj⟩ => ?_, fun b hb => ?_⟩, t.pin⟩⟩
  · exact {
      ext := fun b u e => by rw [upd_ne (ne_of_none e ga)]; exact ok.ext b u e
      len := by simp [ok.len]
      slot := fun j m' d1 e => by
        by_cases c : j = i
        · subst c
          rw [List.getElem?_set_self hlt] at e; cases e
          exact ⟨_, h2, by rw [Own.set_same]; exact r.re⟩
        · rw [List.getElem?_set_ne (Ne.symm c)] at e
          obtain ⟨u, g1, g2⟩ := ok.slot j m' d1 e
          exact ⟨u, g1, by rw [Own.set_ne c]; exact g2.keep (Ex.refl _) fun b hb o ho => by rw [oth j c b hb]; exact ho⟩
      emp := fun j e => by
        by_cases c : j = i
        · subst c; exact absurd (List.getElem?_set_self hlt) (e _ _)
        · rw [Own.set_ne c]; exact ok.emp j fun m' d1 q => e m' d1 (by rw [List.getElem?_set_ne (Ne.symm c)]; exact q)
      nd := fun j => by
        by_cases c : j = i
        · subst c; rw [Own.set_same]; exact n
        · rw [Own.set_ne c]; exact ok.nd j
      dj := fun j j' b h h' => by
        by_cases c : j = i
        · subst c
          by_cases c' : j' = j
          · exact c'.symm
          · rw [Own.set_same] at h
            rw [Own.set_ne c'] at h'
            rcases s b h with q | q
            · exact ok.dj _ _ b q h'
            · exact absurd ⟨j', h'⟩ q.2.1
        · rw [Own.set_ne c] at h
          by_cases c' : j' = i
          · subst c'
            rw [Own.set_same] at h'
            rcases s b h' with q | q
            · exact ok.dj _ _ b h q
            · exact absurd ⟨j, h⟩ q.2.1
          · rw [Own.set_ne c'] at h'
            exact ok.dj _ _ b h h'
      out := fun j b h => by
        by_cases c : j = i
        · subst c; rw [Own.set_same] at h
          rcases s b h with q | q
          · exact ok.out _ b q
          · exact q.1
        · rw [Own.set_ne c] at h; exact ok.out j b h
      pins := fun j m' d1 e => by
        by_cases c : j = i
        · subst c
          rw [List.getElem?_set_self hlt] at e
          have e9 := congrArg (fun z => z.map (fun z => z.map Prod.fst)) e
          simp at e9
          obtain ⟨m2, rfl⟩ := Md.re_P e9 hm
          obtain ⟨u, q1, q2⟩ := ok.pins j _ _ h1
          exact ⟨u, q1, q2⟩
        · rw [List.getElem?_set_ne (Ne.symm c)] at e; exact ok.pins j m' d1 e }
  · show upd T.H a o' b = _
    by_cases c : b = a
    · subst c
      rcases t.stp.fnew b ⟨i, hai⟩ with z | z
      · exact absurd z hn
      · rw [ho] at z; cases z
    · rw [upd_ne c]; exact t.stp.keep b o ho hn
  · by_cases c : j = i
    · subst c
      have hj' : b ∈ T.f.set j fr j := hj
      rw [Own.set_same] at hj'
      rcases s b hj' with q | q
      · exact t.stp.fnew b ⟨j, q⟩
      · exact q.2.2
    · have hj' : b ∈ T.f.set i fr j := hj
      rw [Own.set_ne c] at hj'; exact t.stp.fnew b ⟨j, hj'⟩
  · show upd T.H a o' b ≠ none
    by_cases c : b = a
    · subst c; rw [upd_same]; exact fun z => nomatch z
    · rw [upd_ne c]; exact t.stp.trk b hb
theorem RF.put : ∀ {ms : List Md} {fs : List (Str × V)} {ds : List (Str × D)} {fp : List Addr} {j : Nat} {k : Str} {d0 d : D} {m : Md} {y : V} {fq : List Addr}, RF K G H ms fs ds fp → (ds.map (·.1)).Nodup → fp.Nodup → ds[j]? = some (k, d0) → R K G H m y d fq → fq.Nodup → (∀ a ∈ fq, a ∉ fp) →
    ∃ fr, RF K G H (ms.set j m) (putF k y fs) (ds.set j (k, d)) fr ∧ fr.Nodup ∧ ∀ a ∈ fr, a ∈ fp ∨ a ∈ fq
  | _, _, _, _, _, _, _, _, _, _, _, .nil, _, _, h, _, _, _ => by simp at h
  | _, _, _, _, 0, k, _, d, m, y, fq, .cons (m := m0) (ms := ms) (fp := fp0) (fq := fq0) r t, _, n, h, r', n', dj => by
    simp at h
    obtain ⟨rfl, rfl⟩ := h
    have nn := List.nodup_append.mp n
    refine ⟨fq ++ fq0, ?_, List.nodup_append.mpr ⟨n', nn.2.1, fun a ha b hb c => ?_⟩, fun a ha => ?_⟩
    · simp only [putF, if_true, List.set_cons_zero]
      exact .cons r' t
    · subst c; exact dj a ha (List.mem_append_right _ hb)
    · rcases List.mem_append.mp ha with q | q
      · exact .inr q
      · exact .inl (List.mem_append_right _ q)
  | _, _, _, _, j + 1, k, d1, d, m, y, fq, .cons (m := m0) (ms := ms) (k := k0) (fp := fp0) (fq := fq0) r t, n0, n, h, r', n', dj => by
    have nn := List.nodup_append.mp n
    rw [List.map_cons] at n0
    have n1 := List.nodup_cons.mp n0
    rename_i v0 dv0 vs ds
    have h' : ds[j]? = some (k, d1) := by simpa using h
    obtain ⟨fr, r2, n2, s2⟩ := RF.put t n1.2 nn.2.1 h' r' n' fun a ha c => dj a ha (List.mem_append_right _ c)
    have c : ¬ k0 = k := by
      rintro rfl
      exact n1.1 (List.mem_map.mpr ⟨(k0, d1), List.mem_of_getElem? h', rfl⟩)
    refine ⟨fp0 ++ fr, ?_, List.nodup_append.mpr ⟨nn.1, n2, fun a ha b hb z => ?_⟩, fun a ha => ?_⟩
    · simp only [putF, if_neg c, List.set_cons_succ]
      exact .cons r r2
    · subst z
      rcases s2 a hb with q | q
      · exact nn.2.2 a ha a q rfl
      · exact dj a q (List.mem_append_left _ ha)
    · rcases List.mem_append.mp ha with q | q
      · exact .inl (List.mem_append_left _ q)
      · rcases s2 a q with q | q
        · exact .inl (List.mem_append_right _ q)
        · exact .inr q
theorem RF.app : ∀ {ms : List Md} {fs : List (Str × V)} {ds : List (Str × D)} {fp : List Addr} {k : Str} {d : D} {m : Md} {y : V} {fq : List Addr}, RF K G H ms fs ds fp → k ∉ ds.map (·.1) → fp.Nodup → R K G H m y d fq → fq.Nodup → (∀ a ∈ fq, a ∉ fp) →
    ∃ fr, RF K G H (ms ++ [m]) (putF k y fs) (ds ++ [(k, d)]) fr ∧ fr.Nodup ∧ ∀ a ∈ fr, a ∈ fp ∨ a ∈ fq
  | _, _, _, _, k, d, m, y, fq, .nil, _, _, r', n', _ => ⟨fq, by
      have := RF.cons (k := k) r' (RF.nil (K := K) (G := G) (H := H))
      rw [List.append_nil] at this
      exact this, n', fun a ha => .inr ha⟩
  | _, _, _, _, k, d, m, y, fq, .cons (m := m0) (ms := ms) (k := k0) (fp := fp0) (fq := fq0) r t, h0, n, r', n', dj => by
    have nn := List.nodup_append.mp n
    obtain ⟨fr, r2, n2, s2⟩ := RF.app (k := k) t (fun z => h0 (by simp only [List.map_cons, List.mem_cons]; exact .inr z)) nn.2.1 r' n' fun a ha c => dj a ha (List.mem_append_right _ c)
    have c : ¬ k0 = k := by
      rintro rfl
      exact h0 (by simp)
    refine ⟨fp0 ++ fr, ?_, List.nodup_append.mpr ⟨nn.1, n2, fun a ha b hb z => ?_⟩, fun a ha => ?_⟩
    · simp only [putF, if_neg c, List.cons_append]
      exact .cons r r2
    · subst z
      rcases s2 a hb with q | q
      · exact nn.2.2 a ha a q rfl
      · exact dj a q (List.mem_append_left _ ha)
    · rcases List.mem_append.mp ha with q | q
      · exact .inl (List.mem_append_left _ q)
      · rcases s2 a q with q | q
        · exact .inl (List.mem_append_right _ q)
        · exact .inr q
/-- the value's kind as a mode -/
def Kd.md : Kd → Option Md
  | .fz => some .F
  | .new m => some m
  | .bor _ _ _ => none
/-- slot i's instance of C gets the field f, the j-th: a new one where it has j fields -/
def putFldK (i : Nat) (C : Addr) (f : Str) (j : Nat) (x : Kd × D) (ρ : Rho) (q : Rho → Prop) : Prop := match x.1.md, ρ[i]? with
  | some mx, some (some (m, .obj C' fs)) => (C' = C ∧ notP mx = true ∧ Nat.ble fs.length 900 = true) ∧ match m.st with
    | .O ms => match fs[j]? with
      | some (k, _) => k = f ∧ q (ρ.set i (some (m.re (.O (ms.set j mx)), .obj C (fs.set j (f, x.2)))))
      | none => (fs.map (·.1)).contains f = false ∧ q (ρ.set i (some (m.re (.O (ms ++ [mx])), .obj C (fs ++ [(f, x.2)]))))
    | _ => False
  | _, _ => False
theorem R.stO : ∀ {m : Md} {v : V} {d : D} {fp : List Addr} {ms : List Md}, R K G H m v d fp → m.st = .O ms → R K G H (.O ms) v d fp
  | m, _, _, _, _, h, e => by
    have := h.strip
    rw [e] at this
    exact this
theorem Has.own_of {kd : Kd} {m : Md} {v : V} {d : D} (h : Has K S0 T kd v d) (e : kd.md = some m) : ∃ fp, R K T.G T.H m v d fp ∧ fp.Nodup ∧ ∀ a ∈ fp, T.G a = none ∧ ¬ Ow T.f a ∧ Nw S0 a := by
  cases kd with
  | fz => cases e; exact ⟨[], .F h, List.nodup_nil, fun _ h => nomatch h⟩
  | new m => cases e; exact h
  | bor i p m => cases e
/-- slot i holds an instance -/
def wPutF (i : Nat) (C : Addr) (f : Str) (j : Nat) (we : DE (Kd × D)) : DS := fun E ρ => we ρ ⟨fun _ x ρ' => putFldK i C f j x ρ' E.nx, E.ex⟩
theorem putFld_of {i : Nat} {C : Addr} {f : Str} {j : Nat} {x : Kd × D} {v : V} {q : Rho → Prop} (okT : T.ok K) (t : S.to T) (hv : Has K S T x.1 v x.2) (h : putFldK i C f j x T.ρ q) :
    ∃ a dx fs fs' U, T.σ[i]? = some (some (.ref a)) ∧ T.H a = some (.ins C dx fs) ∧ fs.length < 1000 ∧ fs' = putF f v fs ∧ (fs.lookup f).isSome = (match T.ρ[i]? with | some (some (_, .obj _ ds)) => (ds[j]?).isSome | _ => false) ∧ U.ok K ∧ S.to U ∧ q U.ρ ∧ U.σ = T.σ ∧ U.H = upd T.H a (.ins C dx fs') := by
  unfold putFldK at h
  split at h
  · rename_i mx m C' ds ex eρ
    obtain ⟨⟨rfl, np, sz⟩, h⟩ := h
    split at h
    · rename_i ms em
      obtain ⟨v0, h2, r0⟩ := okT.slot i _ _ eρ
      have r1 := r0.stO em
      generalize hfi : T.f i = fi at r1
      have ni := okT.nd i
      rw [hfi] at ni
      cases r1 with
      | @O _ a _ dx vs _ fp ha n0 rf =>
        obtain ⟨fq, rq, nq, kq⟩ := hv.own_of ex
        have na := List.nodup_cons.mp ni
        have hlen : vs.length < 1000 := by
          have e9 := congrArg List.length rf.names
          rw [List.length_map, List.length_map] at e9
          have := Nat.le_of_ble_eq_true sz
          omega
        have hai : a ∈ T.f i := by rw [hfi]; exact List.mem_cons_self
        have aq : a ∉ fq := fun z => (kq a z).2.1 ⟨i, hai⟩
        have dj : ∀ b ∈ fq, b ∉ fp := fun b hb z => (kq b hb).2.1 ⟨i, by rw [hfi]; exact List.mem_cons_of_mem _ z⟩
        have kp : ∀ o', RF K T.G (upd T.H a o') ms vs ds fp := fun o' => rf.keep (Ex.refl _) fun b hb o ho => by
          rw [upd_ne fun z : b = a => na.1 (by rw [← z]; exact hb)]; exact ho
        have kr : ∀ o', R K T.G (upd T.H a o') mx v x.2 fq := fun o' => rq.keep (Ex.refl _) fun b hb o ho => by
          rw [upd_ne fun z : b = a => aq (by rw [← z]; exact hb)]; exact ho
        have fin : ∀ (ms' : List Md) (ds' : List (Str × D)) (fr : List Addr), (ds'.map (·.1)).Nodup → RF K T.G (upd T.H a (.ins C' dx (putF f v vs))) ms' (putF f v vs) ds' fr → fr.Nodup → (∀ b ∈ fr, b ∈ fp ∨ b ∈ fq) → q (T.ρ.set i (some (m.re (.O ms'), .obj C' ds'))) →
            ∃ U : Sta, U.ok K ∧ S.to U ∧ q U.ρ ∧ U.σ = T.σ ∧ U.H = upd T.H a (.ins C' dx (putF f v vs)) := fun ms' ds' fr n' rf' nr sr hq => by
          have r9 : R K T.G (upd T.H a (.ins C' dx (putF f v vs))) (.O ms') (.ref a) (.obj C' ds') (a :: fr) := .O upd_same n' rf'
          have z := remode_state (S := S) okT eρ h2 hai rfl r9 (List.nodup_cons.mpr ⟨fun z => (sr a z).elim na.1 aq, nr⟩) (fun b hb => by
            rcases List.mem_cons.mp hb with rfl | hb
            · exact .inl hai
            · rcases sr b hb with z | z
              · exact .inl (by rw [hfi]; exact List.mem_cons_of_mem _ z)
              · exact .inr (kq b z)) t
          exact ⟨_, z.1, z.2, hq, rfl, rfl⟩
        split at h
        · rename_i k d0 ej
          obtain ⟨rfl, h⟩ := h
          obtain ⟨fr, r9, n9, s9⟩ := RF.put (kp _) n0 na.2 ej (kr (.ins C' dx (putF k v vs))) nq dj
          obtain ⟨U, u1, u2, u3, u4, u5⟩ := fin _ _ fr (by
            have : (ds.set j (k, x.2)).map (·.1) = ds.map (·.1) := by
              rw [List.map_set]
              refine List.ext_getElem? fun l => ?_
              by_cases c : l = j
              · subst c
                by_cases hl : l < (ds.map (·.1)).length
                · rw [List.getElem?_set_self hl]; simp [ej]
                · rw [List.getElem?_eq_none (by rw [List.length_set]; omega), List.getElem?_eq_none (by omega)]
              · rw [List.getElem?_set_ne (Ne.symm c)]
            rw [this]; exact n0) r9 n9 s9 h
          obtain ⟨y, e1⟩ := rf.at ej
          refine ⟨a, dx, vs, _, U, h2, ha, hlen, rfl, ?_, u1, u2, u3, u4, u5⟩
          rw [lookup_at (by rw [rf.names]; exact n0) e1, eρ]
          simp [ej]
        · rename_i ej
          have nc : f ∉ ds.map (·.1) := by simpa using h.1
          obtain ⟨fr, r9, n9, s9⟩ := RF.app (kp _) nc na.2 (kr (.ins C' dx (putF f v vs))) nq dj
          obtain ⟨U, u1, u2, u3, u4, u5⟩ := fin _ _ fr (by
            rw [List.map_append]
            exact List.nodup_append.mpr ⟨n0, by simp, fun b hb c hc z => by
              subst z
              simp at hc
              subst hc
              exact nc hb⟩) r9 n9 s9 h.2
          refine ⟨a, dx, vs, _, U, h2, ha, hlen, rfl, ?_, u1, u2, u3, u4, u5⟩
          rw [lookup_out (by rw [rf.names]; exact nc), eρ]
          simp [ej]
    · exact h.elim
  · exact h.elim
theorem ts_putF {i : Nat} {C : Addr} {f : Str} {j : Nat} {we : DE (Kd × D)} (c : Cls K C) (na : NoAttr K C f) (h : ts K W (wPutF i C f j we) Z σ H) : sFld K (tVar i) (te K W we) f Z σ H := by
  obtain ⟨S, E, rfl, rfl, ok, w, l⟩ := h
  unfold sFld
  refine te_in ok l w fun p x T e es okT t _ v hv => ?_
  obtain ⟨a, dx, fs, _, U, h2, ha, hl, rfl, _, okU, tU, q, uσ, uH⟩ := putFld_of okT t hv e
  refine ⟨.ref a, by rw [← es]; exact h2, a, C, dx, fs, rfl, ha, c, na, hl, ?_⟩
  have z := l.nx U q okU tU
  rw [uσ, uH, es] at z
  exact z
theorem q_putF (i : Nat) (C : Addr) (j : Nat) {x f : Str} {value : Expr} {we : DE (Kd × D)} {px pos pos' : Pos} (c : Cls X.K C) (na : NoAttr X.K C f) (hv : PE X value (te X.K W we)) (hN : X.N[i]? = some x := by rfl) (hvis : Vis X.env.scope x := by first | exact Or.inl rfl | exact Or.inr (Or.inl rfl) | exact Or.inr (Or.inr rfl)) (hd : (x == ("__debug__" : Str)) = false := by decide)
    (hcd : (x == ("__classdict__" : Str)) = false := by decide) (hs : swapsWith value (some (.Attribute (.Name x px) f pos')) pos.line X.env = pure false := by rfl) : PS X (.Assign [.Attribute (.Name x px) f pos'] value pos) (ts X.K W (wPutF i C f j we)) :=
  PS.imp (ps_fld (pv i hN hvis hd hcd) hv hs) fun _ _ _ h => ts_putF c na h
/-! ### a list, a dict changed by a method, by a store -/
/-- what a list's method does: the items, the arguments, the items behind and the answer -/
abbrev OM := List D → List D → (List D → D → Prop) → Prop
def OkML (K : PySem.W.Frag) (r : V → List V → Hp → VK → Prop) (o : OM) : Prop :=
  ∀ (G H : Hp) (a : Addr) (xs : List V) (ds : List D) (vs : List V) (es : List D) (Q : VK) (q : List D → D → Prop), Ex G H → H a = some (.lst xs) → G a = none → DtA K G xs ds → DtA K G vs es → o ds es q →
    (∀ ds' z, q ds' z → ∀ (xs' : List V) (v : V), DtA K G xs' ds' → Dt K G v z → Q v (upd H a (.lst xs'))) → r (.ref a) vs H Q
/-- .. of the receiver x, a list that is somebody's own -/
def mutK (o : OM) (x : Kd × D) (es : List (Kd × D)) (q : Nat → List Nat → D → D → Prop) : Prop := match x with
  | (.bor i p (.L .F), .lst ds) => allFz es = true ∧ o ds (es.map (·.2)) fun ds' z => q i p (.lst ds') z
  | _ => False
theorem mutK_of {o : OM} {x : Kd × D} {es : List (Kd × D)} {q : Nat → List Nat → D → D → Prop} (h : mutK o x es q) : ∃ i p ds, x = (.bor i p (.L .F), .lst ds) ∧ allFz es = true ∧ o ds (es.map (·.2)) fun ds' z => q i p (.lst ds') z := by
  unfold mutK at h
  split at h
  · exact ⟨_, _, _, rfl, h⟩
  · exact h.elim
def isL : D → Bool
  | .lst _ => true
  | _ => false
def wMut (o : OM) (wr : DE (Kd × D)) (wa : DE (List (Kd × D))) : DE (Kd × D) := fun ρ P => wr ρ ⟨fun p1 x ρ1 => isL x.2 = true ∧ wa ρ1 ⟨fun p2 es ρ2 => hold x.1 p2 = true ∧ mutK o x es fun i p d' z => P.ok (p1 ++ (p2 ++ [i])) (.fz, z) (setAt ρ2 i p d'), P.ex⟩, P.ex⟩
theorem Has.lstO (ok : T.ok K) {i : Nat} {p : List Nat} {v : V} {ds : List D} (h : Has K S0 T (.bor i p (.L .F)) v (.lst ds)) : ∃ a xs, v = .ref a ∧ T.H a = some (.lst xs) ∧ DtA K T.G xs ds ∧ T.G a = none ∧ Lent K T i p (.L .F) (.ref a) (.lst ds) [a] := by
  obtain ⟨fq, l⟩ := h.lent ok
  have r := l.r
  cases r with
  | L ha t =>
    obtain ⟨t', rfl⟩ := t.F_dt
    exact ⟨_, _, rfl, ha, t', ok.out i _ (l.sub _ List.mem_cons_self), l⟩
/-- a list of one's own gets other items -/
theorem lst_put (ok : T.ok K) {i : Nat} {p : List Nat} {a : Addr} {ds ds' : List D} {xs' : List V} (l : Lent K T i p (.L .F) (.ref a) (.lst ds) [a]) (h' : DtA K T.G xs' ds') :
    ∃ U : Sta, U.ok K ∧ T.to U ∧ Tch [i] T U ∧ U.σ = T.σ ∧ U.H = upd T.H a (.lst xs') ∧ U.ρ = setAt T.ρ i p (.lst ds') ∧ U.G = T.G := by
  obtain ⟨f2, z1, z2, z3⟩ := mut_state (o' := .lst xs') (d' := .lst ds') ok l List.mem_cons_self (.L upd_same (RA.of_dt h')) (by simp) (fun b hb => hb)
  exact ⟨_, z1, z2, z3, rfl, rfl, rfl, rfl⟩
theorem te_mut {r : V → List V → Hp → VK → Prop} {o : OM} {wr : DE (Kd × D)} {wa : DE (List (Kd × D))} {Q : VK} (hr : OkML K r o) (h : te K W (wMut o wr wa) σ H Q) : tBM K "list" r (te K W wr) (ta K W wa) σ H Q := by
  obtain ⟨S, P, rfl, rfl, ok, w, k, ex⟩ := h
  refine ⟨S, _, rfl, rfl, ok, w, fun p1 x S1 w1 e1 ok1 t1 pr1 v1 h1 => ?_, ex⟩
  have hty : tyV K "list" v1 S1.H := by
    obtain ⟨kd, d⟩ := x
    have q := h1.dt ok1
    cases d with
    | lst ds =>
      cases q with
      | lst hl ha => exact .inl ⟨rfl, _, .of hl⟩
    | _ => cases w1.1
  refine ⟨hty, S1, _, e1, rfl, ok1, w1.2, fun p2 es S2 w2 e2 ok2 t2 pr2 vs h2 => ?_, fun C fl T e es okT tT dd hd => ex C fl T e es okT (t1.trans tT) dd hd⟩
  obtain ⟨i, p, ds, rfl, fz, ow⟩ := mutK_of w2.2
  obtain ⟨a, xs, rfl, ha, hx, ga, l⟩ := ((h1.stp ok1 t2 (e2.trans e1.symm) pr2 w2.1).from (Sta.refl S)).lstO ok2
  refine hr S2.G S2.H a xs ds vs _ _ _ ok2.ext ha ga hx (h2.fzs fz) ow fun ds' z qz xs' v hx' hz => ?_
  obtain ⟨U, okU, tU, cU, uσ, uH, uρ, uG⟩ := lst_put ok2 l hx'
  have z9 := k (p1 ++ (p2 ++ [i])) (.fz, z) U (by rw [uρ]; exact qz) (by rw [uσ, e2]) okU ((t1.trans t2).trans tU) (pr1.trans (pr2.trans cU)) v (show Dt K U.G v z by rw [uG]; exact hz)
  rw [uH] at z9
  exact z9
end
end VL

namespace VL
open PySem PySem.Spec PyProof.Rows L2
def optK {α : Type} : Option α → (α → Prop) → Prop
  | some a, q => q a
  | none, _ => False
theorem optK_of {α : Type} {o : Option α} {q : α → Prop} (h : optK o q) : ∃ a, o = some a ∧ q a := by
  cases o with
  | none => exact h.elim
  | some a => exact ⟨a, rfl, h⟩
section
variable {K : PySem.W.Frag} {W : WX} {G G' H H' H0 : Hp} {σ : L2.St} {ρ : Rho} {f f' : Own} {pin : Nat → Option V} {X : Cx} {S S0 S1 T T1 T2 U : Sta} {E : En} {Z : Ends}
/-- nothing new is made -/
theorem stay {Q : VK} {q : Kd × D → Prop} (ok : S.ok K) (k : ∀ z, q z → ∀ (v : V) (G' H' : Hp), Grow S.G S.H G' H' → Has K S (S.at G' H') z.1 v z.2 → Q v H') {z : Kd × D} (qz : q z) {v : V} (h : Has K S S z.1 v z.2) : Q v S.H := k z qz v S.G S.H (Grow.refl ok.ext) h
/-! ### ints -/
def intK (x y : D) (q : Int → Int → Prop) : Prop := match x, y with
  | .int i, .int j => q i j
  | _, _ => False
theorem intK_of {x y : D} {q : Int → Int → Prop} (h : intK x y q) : ∃ i j, x = .int i ∧ y = .int j ∧ q i j := by
  unfold intK at h
  split at h
  · exact ⟨_, _, rfl, rfl, h⟩
  · exact h.elim
def oI (c : Int → Int → Prop) (g : Int → Int → Int) : O2 := fun x y q => intK x.2 y.2 fun i j => c i j ∧ q (.fz, .int (g i j))
def oI0 (g : Int → Int → Int) : O2 := fun x y q => intK x.2 y.2 fun i j => q (.fz, .int (g i j))
def oB0 (g : Int → Int → Bool) : O2 := fun x y q => intK x.2 y.2 fun i j => q (.fz, .bl (g i j))
theorem ok_I {c : Int → Int → Prop} {g : Int → Int → Int} : OkR2 K (rI c fun i j => .int (g i j)) (oI c g) := fun S0 S x y dx dy Q q ok hx hy h k => by
  obtain ⟨kx, dx⟩ := dx
  obtain ⟨ky, dy⟩ := dy
  obtain ⟨i, j, rfl, rfl, hc, qz⟩ := intK_of (h : intK dx dy _)
  exact ⟨i, j, hx.int_inv ok, hy.int_inv ok, hc, stay ok k qz (v := .int (g i j)) (.int _)⟩
theorem ok_I0 {g : Int → Int → Int} : OkR2 K (rI0 fun i j => .int (g i j)) (oI0 g) := fun S0 S x y dx dy Q q ok hx hy h k => by
  obtain ⟨kx, dx⟩ := dx
  obtain ⟨ky, dy⟩ := dy
  obtain ⟨i, j, rfl, rfl, qz⟩ := intK_of (h : intK dx dy _)
  exact ⟨i, j, hx.int_inv ok, hy.int_inv ok, stay ok k qz (v := .int (g i j)) (.int _)⟩
theorem ok_B0 {g : Int → Int → Bool} : OkR2 K (rI0 fun i j => .bl (g i j)) (oB0 g) := fun S0 S x y dx dy Q q ok hx hy h k => by
  obtain ⟨kx, dx⟩ := dx
  obtain ⟨ky, dy⟩ := dy
  obtain ⟨i, j, rfl, rfl, qz⟩ := intK_of (h : intK dx dy _)
  exact ⟨i, j, hx.int_inv ok, hy.int_inv ok, stay ok k qz (v := .bl (g i j)) (.bl _)⟩
theorem OkR2.or {r r' : R2} {o o' : O2} (h : OkR2 K r o) (h' : OkR2 K r' o') : OkR2 K (fun x y H Q => r x y H Q ∨ r' x y H Q) (fun x y q => o x y q ∨ o' x y q) := fun S0 S x y dx dy Q q ok hx hy e k => by
  rcases e with e | e
  · exact .inl (h S0 S x y dx dy Q q ok hx hy e k)
  · exact .inr (h' S0 S x y dx dy Q q ok hx hy e k)
theorem OkR2.sub {r : R2} {o o' : O2} (h : OkR2 K r o) (k : ∀ x y q, o' x y q → o x y q) : OkR2 K r o' := fun S0 S x y dx dy Q q ok hx hy e => h S0 S x y dx dy Q q ok hx hy (k _ _ _ e)
/-! ### == != of flat things -/
def eqK (x y : D) (q : Bool → Prop) : Prop := match x, y with
  | .int a, .int b => q (decide (a = b))
  | .str a, .str b => q (decide (a = b))
  | .bl a, .bl b => q (decide (a = b))
  | .non, .non => q true
  | .non, .int _ => q false
  | .int _, .non => q false
  | .non, .bl _ => q false
  | .bl _, .non => q false
  | .non, .str _ => q false
  | .str _, .non => q false
  | .int _, .str _ => q false
  | .str _, .int _ => q false
  | .bl _, .str _ => q false
  | .str _, .bl _ => q false
  | _, _ => False
def vS : D → V
  | .bl b => .bl b
  | .int i => .int i
  | .str x => .str x
  | _ => .non
theorem Dt.vS {v : V} {d : D} (h : Dt K G v d) (s : scD d = true) : v = vS d := by
  cases h <;> first | rfl | cases s
theorem eqK_of {x y : D} {q : Bool → Prop} (h : eqK x y q) : (scD x = true ∧ scD y = true) ∧ scal (vS x) (vS y) = true ∧ q (decide (vS x = vS y)) := by
  cases x <;> cases y <;> simp only [eqK] at h <;> first
    | exact h.elim
    | (refine ⟨⟨rfl, rfl⟩, rfl, ?_⟩; simpa [vS] using h)
def oEq : O2 := fun x y q => eqK x.2 y.2 fun b => q (.fz, .bl b)
def oNe : O2 := fun x y q => eqK x.2 y.2 fun b => q (.fz, .bl (!b))
theorem ok_Eq : OkR2 K rEq oEq := fun S0 S x y dx dy Q q ok hx hy h k => by
  obtain ⟨⟨s1, s2⟩, s3, qz⟩ := eqK_of (h : eqK dx.2 dy.2 _)
  rw [(hx.dt ok).vS s1, (hy.dt ok).vS s2]
  exact ⟨s3, stay ok k qz (v := .bl _) (.bl _)⟩
theorem ok_Ne : OkR2 K rNe oNe := fun S0 S x y dx dy Q q ok hx hy h k => by
  obtain ⟨⟨s1, s2⟩, s3, qz⟩ := eqK_of (h : eqK dx.2 dy.2 _)
  rw [(hx.dt ok).vS s1, (hy.dt ok).vS s2]
  exact ⟨s3, stay ok k qz (v := .bl _) (.bl _)⟩
/-! ### is None -/
def isN : D → Bool
  | .non => true
  | _ => false
theorem dt_isN {v : V} {d : D} (h : Dt K G v d) : decide (v = .non) = isN d := by cases h <;> rfl
def oIsN : O2 := fun x y q => isN y.2 = true ∧ q (.fz, .bl (isN x.2))
def oNotN : O2 := fun x y q => isN y.2 = true ∧ q (.fz, .bl (!isN x.2))
theorem Dt.non_of {v : V} {d : D} (h : Dt K G v d) (s : isN d = true) : v = .non := by cases h <;> first | rfl | cases s
theorem ok_IsN : OkR2 K (fun x y H Q => y = .non ∧ Q (.bl (decide (x = .non))) H) oIsN := fun S0 S x y dx dy Q q ok hx hy h k => by
  refine ⟨(hy.dt ok).non_of h.1, ?_⟩
  rw [dt_isN (hx.dt ok)]
  exact stay ok k h.2 (v := .bl _) (.bl _)
theorem ok_NotN : OkR2 K (fun x y H Q => y = .non ∧ Q (.bl (!decide (x = .non))) H) oNotN := fun S0 S x y dx dy Q q ok hx hy h k => by
  refine ⟨(hy.dt ok).non_of h.1, ?_⟩
  rw [dt_isN (hx.dt ok)]
  exact stay ok k h.2 (v := .bl _) (.bl _)
/-! ### texts, tuples, lists joined -/
def oCatS : O2 := fun x y q => match x.2, y.2 with
  | .str a, .str b => small (a.length + b.length) = true ∧ q (.fz, .str (a ++ b))
  | _, _ => False
/-! ### keys -/
def keyOf : D → Option Key
  | .int i => some (.inl i)
  | .str x => some (.inr x)
  | _ => none
theorem Dt.key {v : V} {d : D} {k : Key} (h : Dt K G v d) (e : keyOf d = some k) : v = kV k := by
  cases h <;> simp only [keyOf] at e <;> cases e <;> rfl
def kD : Key → D
  | .inl i => .int i
  | .inr x => .str x
theorem Dt.kV (k : Key) : Dt K G (kV k) (kD k) := by
  cases k with
  | inl i => exact .int i
  | inr x => exact .str x
def valD (kvs : List (Key × D)) (k : Key) : Option D := (kvs.find? fun kv => decide (kv.1 = k)).map (·.2)
def putKD (kvs : List (Key × D)) (k : Key) (v : D) : List (Key × D) :=
  if (kvs.any fun kv => decide (kv.1 = k)) = true then kvs.map (fun kv => if kv.1 = k then (kv.1, v) else kv) else kvs ++ [(k, v)]
def dropKD (kvs : List (Key × D)) (k : Key) : List (Key × D) := kvs.filter fun kv => decide (kv.1 ≠ k)
theorem DtK.len : ∀ {vs : List (Key × V)} {ds : List (Key × D)}, DtK K G vs ds → vs.length = ds.length
  | _, _, .nil => rfl
  | _, _, .cons h t => by simp [DtK.len t]
theorem DtK.any {k : Key} : ∀ {vs : List (Key × V)} {ds : List (Key × D)}, DtK K G vs ds → (vs.any fun kv => decide (kv.1 = k)) = ds.any fun kv => decide (kv.1 = k)
  | _, _, .nil => rfl
  | _, _, .cons h t => by simp [DtK.any t]
theorem DtK.map {k : Key} {v : V} {d : D} (hv : Dt K G v d) : ∀ {vs : List (Key × V)} {ds : List (Key × D)}, DtK K G vs ds → DtK K G (vs.map fun kv => if kv.1 = k then (kv.1, v) else kv) (ds.map fun kv => if kv.1 = k then (kv.1, d) else kv)
  | _, _, .nil => .nil
  | _, _, .cons (k := k') h t => by
    simp only [List.map_cons]
    by_cases c : k' = k
    · simp only [if_pos c]; exact .cons hv (DtK.map hv t)
    · simp only [if_neg c]; exact .cons h (DtK.map hv t)
theorem DtK.append : ∀ {vs ws : List (Key × V)} {ds es : List (Key × D)}, DtK K G vs ds → DtK K G ws es → DtK K G (vs ++ ws) (ds ++ es)
  | _, _, _, _, .nil, h => h
  | _, _, _, _, .cons h t, h' => .cons h (DtK.append t h')
theorem DtK.put {vs : List (Key × V)} {ds : List (Key × D)} {k : Key} {v : V} {d : D} (h : DtK K G vs ds) (hv : Dt K G v d) : DtK K G (L2.putK vs k v) (putKD ds k d) := by
  unfold L2.putK putKD
  rw [h.any]
  split
  · exact h.map hv
  · exact h.append (.cons hv .nil)
theorem DtK.drop {k : Key} : ∀ {vs : List (Key × V)} {ds : List (Key × D)}, DtK K G vs ds → DtK K G (dropK vs k) (dropKD ds k)
  | _, _, .nil => .nil
  | _, _, .cons (k := k') h t => by
    have ih := DtK.drop (k := k) t
    unfold dropK dropKD at *
    by_cases c : k' = k
    · simpa [List.filter_cons, c] using ih
    · simp only [List.filter_cons, c, ne_eq, not_false_eq_true, decide_true, if_true]
      exact .cons h ih
theorem DtK.val {k : Key} : ∀ {vs : List (Key × V)} {ds : List (Key × D)}, DtK K G vs ds → (valD ds k = none ∧ valV vs k = none) ∨ ∃ v d, valD ds k = some d ∧ valV vs k = some v ∧ Dt K G v d
  | _, _, .nil => .inl ⟨rfl, rfl⟩
  | _, _, .cons (k := k') h t => by
    by_cases c : k' = k
    · refine .inr ⟨_, _, ?_, ?_, h⟩
      · simp [valD, List.find?_cons, c]
      · exact valV_pos c
    · rcases DtK.val (k := k) t with ⟨e1, e2⟩ | ⟨v, d, e1, e2, hd⟩
      · exact .inl ⟨by simpa [valD, List.find?_cons, c] using e1, by rw [valV_neg c]; exact e2⟩
      · exact .inr ⟨v, d, by simpa [valD, List.find?_cons, c] using e1, by rw [valV_neg c]; exact e2, hd⟩
/-- the dict of a value: frozen or somebody's own -/
def dctK (x : Kd × D) (q : List (Key × D) → Prop) : Prop := match x with
  | (.fz, .dct ds) => q ds
  | (.bor _ _ .K, .dct ds) => q ds
  | (.new .K, .dct ds) => q ds
  | _ => False
theorem Has.dctR (ok : S.ok K) {x : Kd × D} {v : V} {q : List (Key × D) → Prop} (h : Has K S0 S x.1 v x.2) (e : dctK x q) : ∃ a kvs ds, v = .ref a ∧ Rd S.H a (.dK kvs) ∧ DtK K S.G kvs ds ∧ q ds := by
  unfold dctK at e
  split at e
  · cases h with
    | dct hG hk => exact ⟨_, _, _, rfl, ok.ext.rd hG, hk, e⟩
  · obtain ⟨fq, r, _⟩ := h.bor_R ok
    cases r with
    | K hG hk => exact ⟨_, _, _, rfl, .inl hG, hk, e⟩
  · obtain ⟨fq, r, _⟩ := h
    cases r with
    | K hG hk => exact ⟨_, _, _, rfl, .inl hG, hk, e⟩
  · exact e.elim
/-! ### x in .. -/
def rDIn (neg : Bool) : R2 := fun y x H Q => ∃ a o, x = .ref a ∧ DGet H a y o ∧ Q (.bl (if neg then !o.isSome else o.isSome)) H
theorem op_dnotin (hu : X.A.units + 1 < cLine) : OpR X (compareOp .NotIn) (rDIn true) := by
  intro pins s σ H x y v u Q I rx ry h
  obtain ⟨a, ov, rfl, g, q⟩ := h
  obtain rfl : u = Value.ref a := ry
  exact d_notIn hu I g rx fun s3 I3 => ⟨.bl (!ov.isSome), H, I3, rfl, q⟩
def eqvD : D → D → Bool
  | .non, .non => true
  | .bl a, .bl b => a == b
  | .bl a, .int b => (if a then 1 else 0) == b
  | .int a, .bl b => a == (if b then 1 else 0)
  | .int a, .int b => a == b
  | .str a, .str b => a == b
  | _, _ => false
/-- flat x among flat things -/
def seqInK (x : D) (y : Kd × D) (q : Bool → Prop) : Prop := match y.2 with
  | .lst ds => (scD x = true ∧ ds.all scD = true) ∧ q (ds.any fun z => eqvD z x)
  | .tup ds => (scD x = true ∧ ds.all scD = true) ∧ q (ds.any fun z => eqvD z x)
  | .dct _ => optK (keyOf x) fun k => dctK y fun ds => q (valD ds k).isSome
  | _ => False
def oIn : O2 := fun x y q => seqInK x.2 y fun b => q (.fz, .bl b)
def oNotIn : O2 := fun x y q => seqInK x.2 y fun b => q (.fz, .bl (!b))
theorem flatV_vS (d : D) : flatV (vS d) = true := by cases d <;> rfl
theorem eqV_vS {a b : D} (h : scD a = true) (h' : scD b = true) : eqV (vS a) (vS b) = eqvD a b := by
  cases a <;> cases b <;> first
    | rfl
    | (cases h'; done)
    | (cases h; done)
theorem DtA.flat : ∀ {vs : List V} {ds : List D}, DtA K G vs ds → ds.all scD = true → vs.all flatV = true ∧ ∀ (x : D), scD x = true → inV (vS x) vs = ds.any fun z => eqvD z x
  | _, _, .nil, _ => ⟨rfl, fun _ _ => rfl⟩
  | _, _, .cons h t, e => by
    simp only [List.all_cons, Bool.and_eq_true] at e
    obtain ⟨h1, h2⟩ := DtA.flat t e.2
    have hv := h.vS e.1
    subst hv
    refine ⟨by simp [flatV_vS, h1], fun x hx => ?_⟩
    show List.any _ _ = _
    rw [List.any_cons, List.any_cons, eqV_vS e.1 hx]
    exact congrArg _ (h2 x hx)
theorem seqInK_of {x : Kd × D} {y : Kd × D} {q : Bool → Prop} {vx vy : V} (ok : S.ok K) (hx : Has K S0 S x.1 vx x.2) (hy : Has K S0 S y.1 vy y.2) (h : seqInK x.2 y q) : ∃ b, q b ∧
    ((∃ p xs, vy = .ref p ∧ (SqL K S.H p xs ∨ SqT K S.H p xs) ∧ flatV vx = true ∧ xs.all flatV = true ∧ inV vx xs = b) ∨ ∃ a o, vy = .ref a ∧ DGet S.H a vx o ∧ o.isSome = b) := by
  unfold seqInK at h
  split at h
  · rename_i ds e
    obtain ⟨kd, d⟩ := y
    subst e
    have hd := hy.dt ok
    have vx1 := (hx.dt ok).vS h.1.1
    subst vx1
    cases hd with
    | lst hl ha =>
      obtain ⟨h1, h2⟩ := ha.flat h.1.2
      exact ⟨_, h.2, .inl ⟨_, _, rfl, .inl (.of hl), flatV_vS _, h1, h2 _ h.1.1⟩⟩
  · rename_i ds e
    obtain ⟨kd, d⟩ := y
    subst e
    have hd := hy.dt ok
    have vx1 := (hx.dt ok).vS h.1.1
    subst vx1
    cases hd with
    | tup hl ha =>
      obtain ⟨h1, h2⟩ := ha.flat h.1.2
      exact ⟨_, h.2, .inl ⟨_, _, rfl, .inr hl, flatV_vS _, h1, h2 _ h.1.1⟩⟩
  · obtain ⟨k, ek, e⟩ := optK_of h
    obtain ⟨a, kvs, ds, rfl, hG, hk, qb⟩ := hy.dctR ok e
    have vx1 := (hx.dt ok).key ek
    subst vx1
    refine ⟨_, qb, .inr ⟨a, _, rfl, .inl ⟨_, _, hG, rfl, rfl⟩, ?_⟩⟩
    rcases hk.val (k := k) with ⟨e1, e2⟩ | ⟨v, d, e1, e2, _⟩
    · rw [e1, e2]; rfl
    · rw [e1, e2]; rfl
  · exact h.elim
theorem ok_NotIn : OkR2 K (fun x y H Q => rIn K true x y H Q ∨ rDIn true x y H Q) oNotIn := fun S0 S x y dx dy Q q ok hx hy h k => by
  obtain ⟨b, qb, ⟨p, xs, rfl, h1, h2, h3, h4⟩ | ⟨a, o, rfl, h1, h2⟩⟩ := seqInK_of ok hx hy (h : seqInK dx.2 dy _)
  · refine .inl ⟨p, xs, rfl, h1, h2, h3, ?_⟩
    show Q (.bl (!inV x xs)) _
    rw [h4]
    exact stay ok k qb (v := .bl _) (.bl _)
  · refine .inr ⟨a, o, rfl, h1, ?_⟩
    show Q (.bl (!o.isSome)) _
    rw [h2]
    exact stay ok k qb (v := .bl _) (.bl _)
/-! ### subscripts -/
def rIxDK : R2 := fun x y H Q => ∃ a v, x = .ref a ∧ DGet H a y (some v) ∧ Q v H
theorem ix_dict (hu : X.A.units + 1 < cLine) : IxR X rIxDK := by
  intro value slice pins s σ H x y v u Q I rx ry h hs
  obtain ⟨a, z, rfl, g, q⟩ := h
  obtain rfl : v = Value.ref a := rx
  exact tail_any (dict_typeIs I g) slot_dict_getitem.lookup (d_getItem hu I g ry fun w' s' I' rw' => ⟨z, H, I', rw', q⟩) hs
def ixKd (k : Nat) (p : List Nat) (m : Md) (j : Nat) : Kd := kAt k (p ++ [j]) m
def oIx : O2 := fun x y q => match x, y.2 with
  | (.fz, .lst ds), .int i => optK (atI ds i) fun d => q (.fz, d)
  | (.new (.L .F), .lst ds), .int i => optK (atI ds i) fun d => q (.fz, d)
  | (.bor k p (.L m), .lst ds), .int i => optK (ixN ds.length i) fun j => optK ds[j]? fun d => q (kAt k (p ++ [j]) m, d)
  | (.fz, .tup ds), .int i => optK (atI ds i) fun d => q (.fz, d)
  | (.bor k p (.T ms), .tup ds), .int i => optK (ixN ds.length i) fun j => optK ms[j]? fun m => optK ds[j]? fun d => q (kAt k (p ++ [j]) m, d)
  | (_, .str z), .int i => small z.length = true ∧ optK (atI z.cps.toList i) fun c => q (.fz, .str ⟨#[c]⟩)
  | (_, .scr ns), .int i => optK (atI ns i) fun n => q (.fz, .int n)
  | (kd, .dct es), y => optK (keyOf y) fun k => dctK (kd, .dct es) fun ds => optK (valD ds k) fun d => q (.fz, d)
  | _, _ => False
theorem DtA.atI {vs : List V} {ds : List D} {i : Int} {d : D} (h : DtA K G vs ds) (e : L2.atI ds i = some d) : ∃ v, L2.atI vs i = some v ∧ Dt K G v d := by
  unfold L2.atI at e ⊢
  rw [h.len]
  cases c : ixN ds.length i with
  | none => rw [c] at e; cases e
  | some j =>
    rw [c] at e
    exact h.get e
theorem RA.len {m : Md} : ∀ {vs : List V} {ds : List D} {fp : List Addr}, RA K G H m vs ds fp → vs.length = ds.length
  | _, _, _, .nil => rfl
  | _, _, _, .cons h t => by simp [RA.len t]
theorem Rch.snoc_lst : ∀ {H : Hp} {v0 v x : V} {p : List Nat} {a : Addr} {xs : List V} {j : Nat}, Rch H v0 p v → v = .ref a → H a = some (.lst xs) → xs[j]? = some x → Rch H v0 (p ++ [j]) x
  | _, _, _, _, _, _, _, _, .here, e, h, i => by subst e; exact .lst h i .here
  | _, _, _, _, _, _, _, _, .lst h1 i1 t, e, h, i => .lst h1 i1 (Rch.snoc_lst t e h i)
  | _, _, _, _, _, _, _, _, .ins h1 i1 t, e, h, i => .ins h1 i1 (Rch.snoc_lst t e h i)
  | _, _, _, _, _, _, _, _, .tup h1 i1 t, e, h, i => .tup h1 i1 (Rch.snoc_lst t e h i)
  | _, _, _, _, _, _, _, _, .dK h1 i1 t, e, h, i => .dK h1 i1 (Rch.snoc_lst t e h i)
theorem RS.len : ∀ {ms : List Md} {vs : List V} {ds : List D} {fp : List Addr}, RS K G H ms vs ds fp → vs.length = ds.length
  | _, _, _, _, .nil => rfl
  | _, _, _, _, .cons h t => by simp [RS.len t]
theorem Rch.snoc_tup : ∀ {H : Hp} {v0 v x : V} {p : List Nat} {a : Addr} {xs : List V} {j : Nat}, Rch H v0 p v → v = .ref a → H a = some (.tup xs) → xs[j]? = some x → Rch H v0 (p ++ [j]) x
  | _, _, _, _, _, _, _, _, .here, e, h, i => by subst e; exact .tup h i .here
  | _, _, _, _, _, _, _, _, .lst h1 i1 t, e, h, i => .lst h1 i1 (Rch.snoc_tup t e h i)
  | _, _, _, _, _, _, _, _, .ins h1 i1 t, e, h, i => .ins h1 i1 (Rch.snoc_tup t e h i)
  | _, _, _, _, _, _, _, _, .tup h1 i1 t, e, h, i => .tup h1 i1 (Rch.snoc_tup t e h i)
  | _, _, _, _, _, _, _, _, .dK h1 i1 t, e, h, i => .dK h1 i1 (Rch.snoc_tup t e h i)
theorem atI_map {α β : Type} {g : α → β} {xs : List α} {i : Int} {a : α} (h : L2.atI xs i = some a) : L2.atI (xs.map g) i = some (g a) := by
  unfold L2.atI at h ⊢
  rw [List.length_map]
  cases c : ixN xs.length i with
  | none => rw [c] at h; cases h
  | some j =>
    rw [c] at h
    have h' : xs[j]? = some a := h
    show (xs.map g)[j]? = _
    rw [List.getElem?_map, h']
    rfl
theorem ok_Ix : OkR2 K (fun x y H Q => rIx K x y H Q ∨ rIxDK x y H Q) oIx := fun S0 S x y dx dy Q q ok hx hy h k => by
  obtain ⟨ky, dy⟩ := dy
  unfold oIx at h
  split at h
  · rename_i ds i e2
    cases e2
    have hy' := hy.int_inv ok
    subst hy'
    obtain ⟨d, ed, qd⟩ := optK_of h
    cases hx with
    | lst hl ha =>
      obtain ⟨v, ev, hv⟩ := ha.atI ed
      exact .inl (.inl ⟨_, _, i, v, rfl, rfl, L2.SqL.of (ok.ext _ _ hl), ev, stay ok k qd hv⟩)
  · rename_i ds i e2
    cases e2
    have hy' := hy.int_inv ok
    subst hy'
    obtain ⟨d, ed, qd⟩ := optK_of h
    obtain ⟨fp, r, _⟩ := hx
    cases r with
    | L hG ra =>
      obtain ⟨ha, _⟩ := ra.F_dt
      obtain ⟨v, ev, hv⟩ := ha.atI ed
      exact .inl (.inl ⟨_, _, i, v, rfl, rfl, .of hG, ev, stay ok k qd hv⟩)
  · rename_i b p m ds i e2
    cases e2
    have hy' := hy.int_inv ok
    subst hy'
    obtain ⟨j, ej, h⟩ := optK_of h
    obtain ⟨d, ed, qd⟩ := optK_of h
    obtain ⟨fq, r, _⟩ := hx.bor_R ok
    cases r with
    | @L _ a xs _ fp hG ra =>
      have hlt := (List.getElem?_eq_some_iff.mp ed).1
      have hxj : xs[j]? = some (xs[j]'(by rw [ra.len]; exact hlt)) := List.getElem?_eq_getElem _
      refine .inl (.inl ⟨a, xs, i, _, rfl, rfl, .of hG, ?_, stay ok k qd (v := xs[j]'(by rw [ra.len]; exact hlt)) ?_⟩)
      · show ((ixN xs.length i).bind fun j => xs[j]?) = _
        have e9 : ixN xs.length i = some j := by rw [ra.len]; exact ej
        rw [e9]
        exact hxj
      · obtain ⟨m0, d0, v0, h1, h2, h3, h4, h5⟩ := hx
        exact Has.of_at ok h1 h2 (Rch.snoc_lst h3 rfl hG hxj) (mAt_snoc h4 rfl) (dAt_snoc h5 ed)
  · rename_i ds i e2
    cases e2
    have hy' := hy.int_inv ok
    subst hy'
    obtain ⟨d, ed, qd⟩ := optK_of h
    cases hx with
    | tup hl ha =>
      obtain ⟨v, ev, hv⟩ := ha.atI ed
      exact .inl (.inr (.inl ⟨_, _, i, v, rfl, rfl, ok.ext.t hl, ev, stay ok k qd hv⟩))
  · rename_i b p ms ds i e2
    cases e2
    have hy' := hy.int_inv ok
    subst hy'
    obtain ⟨j, ej, h⟩ := optK_of h
    obtain ⟨m, em, h⟩ := optK_of h
    obtain ⟨d, ed, qd⟩ := optK_of h
    obtain ⟨fq, r, _⟩ := hx.bor_R ok
    cases r with
    | @T _ a xs _ fp hG0 ra =>
      have hG := ok.ext _ _ hG0
      have hlt := (List.getElem?_eq_some_iff.mp ed).1
      have hxj : xs[j]? = some (xs[j]'(by rw [ra.len]; exact hlt)) := List.getElem?_eq_getElem _
      refine .inl (.inr (.inl ⟨a, xs, i, _, rfl, rfl, .inl (.inl hG), ?_, stay ok k qd (v := xs[j]'(by rw [ra.len]; exact hlt)) ?_⟩))
      · show ((ixN xs.length i).bind fun j => xs[j]?) = _
        have e9 : ixN xs.length i = some j := by rw [ra.len]; exact ej
        rw [e9]
        exact hxj
      · obtain ⟨m0, d0, v0, h1, h2, h3, h4, h5⟩ := hx
        exact Has.of_at ok h1 h2 (Rch.snoc_tup h3 rfl hG hxj) (mAt_snoc h4 em) (dAt_snoc h5 ed)
  · rename_i kd z i e2
    cases e2
    have hy' := hy.int_inv ok
    subst hy'
    have hx' := hx.str_inv ok
    subst hx'
    obtain ⟨c, ec, qd⟩ := optK_of h.2
    exact .inl (.inr (.inr ⟨z, i, c, rfl, rfl, small_sz h.1, ec, stay ok k qd (v := .str _) (.str _)⟩))
  · rename_i kd ns i e2
    cases e2
    have hy' := hy.int_inv ok
    subst hy'
    obtain ⟨n, en, qn⟩ := optK_of h
    have hd := hx.dt ok
    cases hd with
    | scr hl => exact .inl (.inl ⟨_, _, i, .int n, rfl, rfl, hl, atI_map en, stay ok k qn (v := .int _) (.int _)⟩)
  · rename_i kd es
    obtain ⟨key, ek, h⟩ := optK_of h
    obtain ⟨a, kvs, ds, rfl, hG, hk, h⟩ := Has.dctR ok (x := (kd, .dct es)) hx h
    obtain ⟨d, ed, qd⟩ := optK_of h
    have hyv := (hy.dt ok).key ek
    subst hyv
    rcases hk.val (k := key) with ⟨e1, e2⟩ | ⟨v, d', e1, e2, hd⟩
    · rw [e1] at ed; cases ed
    · rw [e1] at ed; cases ed
      exact .inr ⟨a, v, rfl, .inl ⟨_, _, hG, rfl, e2.symm⟩, stay ok k qd hd⟩
  · exact h.elim
end
end VL

namespace VL
open PySem PySem.Spec PyProof.Rows L2
section
variable {K : PySem.W.Frag} {W : WX} {G G' H H' H0 : Hp} {σ : L2.St} {ρ : Rho} {f f' : Own} {pin : Nat → Option V} {X : Cx} {S S0 S1 T T1 T2 U : Sta} {E : En} {Z : Ends}
/-! ### new things -/
theorem new_lst {Q : VK} {q : Kd × D → Prop} (ok : S.ok K) (k : ∀ z, q z → ∀ (v : V) (G' H' : Hp), Grow S.G S.H G' H' → Has K S (S.at G' H') z.1 v z.2 → Q v H') {xs : List V} {ds : List D} (qz : q (.new (.L .F), .lst ds)) (h : DtA K S.G xs ds) {p : Addr} (hp : S.H p = none) : Q (.ref p) (upd S.H p (.lst xs)) :=
  k _ qz _ S.G _ (Grow.own ok.ext hp) (Has.lst_new ok h hp hp)
theorem new_tup {Q : VK} {q : Kd × D → Prop} (ok : S.ok K) (k : ∀ z, q z → ∀ (v : V) (G' H' : Hp), Grow S.G S.H G' H' → Has K S (S.at G' H') z.1 v z.2 → Q v H') {xs : List V} {ds : List D} (qz : q (.fz, .tup ds)) (h : DtA K S.G xs ds) {p : Addr} (hp : S.H p = none) : Q (.ref p) (upd S.H p (.tup xs)) :=
  k _ qz _ _ _ (Grow.new ok.ext hp) (Dt.tup_new h (ok.ext.free hp))
/-- the items of a list: frozen or somebody's own -/
def lstK (x : Kd × D) (q : List D → Prop) : Prop := match x with
  | (.fz, .lst ds) => q ds
  | (.bor _ _ (.L .F), .lst ds) => q ds
  | (.new (.L .F), .lst ds) => q ds
  | _ => False
theorem Has.lstR (ok : S.ok K) {x : Kd × D} {v : V} {q : List D → Prop} (h : Has K S0 S x.1 v x.2) (e : lstK x q) : ∃ a xs ds, v = .ref a ∧ S.H a = some (.lst xs) ∧ DtA K S.G xs ds ∧ q ds := by
  unfold lstK at e
  split at e
  · cases h with
    | lst hG hk => exact ⟨_, _, _, rfl, ok.ext _ _ hG, hk, e⟩
  · obtain ⟨fq, r, _⟩ := h.bor_R ok
    cases r with
    | L hG hk => exact ⟨_, _, _, rfl, hG, hk.F_dt.1, e⟩
  · obtain ⟨fq, r, _⟩ := h
    cases r with
    | L hG hk => exact ⟨_, _, _, rfl, hG, hk.F_dt.1, e⟩
  · exact e.elim
/-- .. of a list or a tuple -/
def itmK (x : Kd × D) (q : List D → Prop) : Prop := match x with
  | (.fz, .tup ds) => q ds
  | x => lstK x q
theorem Has.itmR (ok : S.ok K) {x : Kd × D} {v : V} {q : List D → Prop} (h : Has K S0 S x.1 v x.2) (e : itmK x q) : ∃ a xs ds, v = .ref a ∧ (SqL K S.H a xs ∨ SqT K S.H a xs) ∧ DtA K S.G xs ds ∧ q ds := by
  unfold itmK at e
  split at e
  · cases h with
    | tup hG hk => exact ⟨_, _, _, rfl, .inr (ok.ext.t hG), hk, e⟩
  · obtain ⟨a, xs, ds, e1, e2, e3, e4⟩ := h.lstR ok e
    exact ⟨a, xs, ds, e1, .inl (.of e2), e3, e4⟩
/-! ### + -/
def oAdd : O2 := fun x y q => match x.2, y.2 with
  | .int a, .int b => q (.fz, .int (a + b))
  | .str a, .str b => small (a.length + b.length) = true ∧ q (.fz, .str (a ++ b))
  | .tup _, .tup _ => itmK x fun a => itmK y fun b => small (a.length + b.length) = true ∧ q (.fz, .tup (a ++ b))
  | .lst _, .lst _ => lstK x fun a => lstK y fun b => small (a.length + b.length) = true ∧ q (.new (.L .F), .lst (a ++ b))
  | _, _ => False
def rAddU (K : PySem.W.Frag) : R2 := fun x y H Q => rI0 (fun i j => .int (i + j)) x y H Q ∨ (∃ i j, x = .str i ∧ y = .str j ∧ i.length + j.length ≤ sizeLine ∧ Q (.str (i ++ j)) H) ∨ rCatA K x y H Q ∨ rCat x y H Q
theorem op_addU : OpR X (binaryOp .Add) (rAddU X.K) := op_add.or (op_add_str.or (op_catA.or op_cat))
theorem tupR (ok : S.ok K) {k : Kd} {l : List D} {v : V} {q : List D → Prop} (h : Has K S0 S k v (.tup l)) (e : itmK (k, .tup l) q) : ∃ a xs ds, v = .ref a ∧ SqT K S.H a xs ∧ Dt K S.G v (.tup ds) ∧ DtA K S.G xs ds ∧ q ds := by
  cases k with
  | fz =>
    cases h with
    | tup hG hk => exact ⟨_, _, _, rfl, ok.ext.t hG, .tup hG hk, hk, e⟩
  | bor i p m => exact (show False by simpa [itmK, lstK] using e).elim
  | new m => exact (show False by simpa [itmK, lstK] using e).elim
theorem ok_Add : OkR2 K (rAddU K) oAdd := fun S0 S x y dx dy Q q ok hx hy h k => by
  obtain ⟨kx, dx⟩ := dx
  obtain ⟨ky, dy⟩ := dy
  unfold oAdd at h
  split at h
  · rename_i a b e1 e2
    cases e1; cases e2
    exact .inl ⟨a, b, hx.int_inv ok, hy.int_inv ok, stay ok k h (v := .int _) (.int _)⟩
  · rename_i a b e1 e2
    cases e1; cases e2
    exact .inr (.inl ⟨a, b, hx.str_inv ok, hy.str_inv ok, small_sz h.1, stay ok k h.2 (v := .str _) (.str _)⟩)
  · rename_i a b e1 e2
    cases e1; cases e2
    obtain ⟨p, xs, ds, rfl, h1, dx, h2, h⟩ := tupR ok hx h
    obtain ⟨p', xs', ds', rfl, h1', dy, h2', h⟩ := tupR ok hy h
    refine .inr (.inr (.inl ⟨p, p', xs, xs', rfl, rfl, h1, h1', by rw [h2.len, h2'.len]; exact small_sz h.1, fun e => ?_, fun _ e => ?_, fun _ _ p hp => new_tup ok k h.2 (h2.append h2') hp⟩))
    · subst e
      cases h2
      exact stay ok k h.2 (v := .ref p') dy
    · subst e
      cases h2'
      have := h.2
      rw [List.append_nil] at this
      exact stay ok k this (v := .ref p) dx
  · rename_i a b e1 e2
    cases e1; cases e2
    obtain ⟨p, xs, ds, rfl, h1, h2, h⟩ := Has.lstR ok (x := (kx, _)) hx h
    obtain ⟨p', xs', ds', rfl, h1', h2', h⟩ := Has.lstR ok (x := (ky, _)) hy h
    exact .inr (.inr (.inr ⟨p, p', xs, xs', rfl, rfl, h1, h1', by rw [h2.len, h2'.len]; exact small_sz h.1, fun p hp => new_lst ok k h.2 (h2.append h2') hp⟩))
  · exact h.elim
/-- int, or list by int -/
def oMul : O2 := fun x y q => match x.2, y.2 with
  | .int a, .int b => CMul a b ∧ q (.fz, .int (a * b))
  | .lst _, .int n => lstK x fun ds => (0 ≤ n ∧ small (ds.length * n.toNat) = true ∧ n < 2 ^ 63) ∧ q (.new (.L .F), .lst (List.replicate n.toNat ds).flatten)
  | _, _ => False
theorem op_mulU : OpR X (binaryOp .Mult) (fun x y H Q => rI CMul (fun i j => .int (i * j)) x y H Q ∨ rRep x y H Q) := op_mul.or op_rep
theorem ok_Mul : OkR2 K (fun x y H Q => rI CMul (fun i j => .int (i * j)) x y H Q ∨ rRep x y H Q) oMul := fun S0 S x y dx dy Q q ok hx hy h k => by
  obtain ⟨kx, dx⟩ := dx
  obtain ⟨ky, dy⟩ := dy
  unfold oMul at h
  split at h
  · rename_i a b e1 e2
    cases e1; cases e2
    exact .inl ⟨a, b, hx.int_inv ok, hy.int_inv ok, h.1, stay ok k h.2 (v := .int _) (.int _)⟩
  · rename_i a n e1 e2
    cases e1; cases e2
    obtain ⟨p, xs, ds, rfl, h1, h2, h⟩ := Has.lstR ok (x := (kx, _)) hx h
    refine .inr ⟨p, n, xs, rfl, hy.int_inv ok, h1, by omega, h.1.2.2, by rw [h2.len]; exact small_sz h.1.2.1, fun p hp => new_lst ok k h.2 (h2.rep _) hp⟩
  · exact h.elim
/-! ### slices -/
def cutD (xs : List D) (lo hi : Option Int) : List D := (xs.drop (HT.sIx xs.length 0 lo)).take (HT.sIx xs.length xs.length hi - HT.sIx xs.length 0 lo)
abbrev OS := Kd × D → Option Int → Option Int → (Kd × D → Prop) → Prop
def oSl : OS := fun x lo hi q => match x.2 with
  | .lst _ => lstK x fun ds => q (.new (.L .F), .lst (cutD ds lo hi))
  | .tup _ => itmK x fun ds => q (.fz, .tup (cutD ds lo hi))
  | .str z => small z.length = true ∧ q (.fz, .str (cutS z lo hi))
  | .scr ns => q (.new (.L .F), .lst (cutD (ns.map .int) lo hi))
  | _ => False
def rSlU (K : PySem.W.Frag) : V → Option Int → Option Int → Hp → VK → Prop := fun x lo hi H Q => rSlL K x lo hi H Q ∨ rSlA K x lo hi H Q ∨ rSlS x lo hi H Q
theorem sl_any : SlR X (rSlU X.K) := sl_list.or (sl_tupA.or sl_str)
theorem DtA.cut {vs : List V} {ds : List D} (h : DtA K G vs ds) (lo hi : Option Int) : DtA K G (cutV vs lo hi) (cutD ds lo hi) := by
  unfold cutV cutD
  rw [h.len]
  exact (h.drop _).take _
theorem DtA.ints : ∀ ns : List Int, DtA K G (ns.map V.int) (ns.map D.int)
  | [] => .nil
  | n :: ns => .cons (.int n) (DtA.ints ns)
theorem cut_all {ds : List D} {lo hi : Option Int} (h : HT.sIx ds.length 0 lo = 0 ∧ HT.sIx ds.length ds.length hi = ds.length) : cutD ds lo hi = ds := by
  unfold cutD
  rw [h.1, h.2]
  simp
theorem ok_Sl {x : V} {dx : Kd × D} {lo hi : Option Int} {Q : VK} {q : Kd × D → Prop} (ok : S.ok K) (hx : Has K S0 S dx.1 x dx.2) (h : oSl dx lo hi q) (k : ∀ z, q z → ∀ (v : V) (G' H' : Hp), Grow S.G S.H G' H' → Has K S (S.at G' H') z.1 v z.2 → Q v H') : rSlU K x lo hi S.H Q := by
  obtain ⟨kx, dx⟩ := dx
  unfold oSl at h
  split at h
  · rename_i l e1
    cases e1
    obtain ⟨p, xs, ds, rfl, h1, h2, h⟩ := Has.lstR ok (x := (kx, _)) hx h
    exact .inl ⟨p, xs, rfl, .of h1, fun p hp => new_lst ok k h (h2.cut lo hi) hp⟩
  · rename_i l e1
    cases e1
    obtain ⟨p, xs, ds, rfl, h1, dx, h2, h⟩ := tupR ok hx h
    refine .inr (.inl ⟨p, xs, rfl, h1, fun e => ?_, fun _ p hp => new_tup ok k h (h2.cut lo hi) hp⟩)
    rw [h2.len] at e
    rw [cut_all e] at h
    exact stay ok k h (v := .ref p) dx
  · rename_i z e1
    cases e1
    exact .inr (.inr ⟨z, hx.str_inv ok, small_sz h.1, stay ok k h.2 (v := .str _) (.str _)⟩)
  · rename_i ns e1
    cases e1
    have hd := hx.dt ok
    cases hd with
    | scr hl => exact .inl ⟨_, _, rfl, hl, fun p hp => new_lst ok k h ((DtA.ints ns).cut lo hi) hp⟩
  · exact h.elim
def wNo : DE (Option Int) := fun ρ P => P.ok [] none ρ
def wSo (we : DE (Kd × D)) : DE (Option Int) := fun ρ P => we ρ ⟨fun p x ρ' => match x.2 with
  | .int i => P.ok p (some i) ρ'
  | _ => False, P.ex⟩
theorem q_no : PO X none (tO X.K W wNo) := PO.imp po_none fun σ H Q h => by
  obtain ⟨S, P, rfl, rfl, ok, w, k, _⟩ := h
  exact k _ _ S w rfl ok (Sta.refl S) (Tch.refl S _) _ rfl
theorem q_so {e : Expr} {we : DE (Kd × D)} (h : PE X e (te X.K W we)) : PO X (some e) (tO X.K W (wSo we)) := PO.imp (po_some h) fun σ H Q h => by
  obtain ⟨S, P, rfl, rfl, ok, w, k, ex⟩ := h
  unfold wSo at w
  refine ⟨S, _, rfl, rfl, ok, w, fun p x T e es okT t tc v hv => ?_, ex⟩
  obtain ⟨kd, d⟩ := x
  cases d with
  | int i => exact ⟨i, hv.int_inv okT, k _ _ T e es okT t tc _ rfl⟩
  | _ => exact e.elim
def wSl (we : DE (Kd × D)) (wl wh : DE (Option Int)) : DE (Kd × D) := fun ρ P => we ρ ⟨fun p1 x ρ1 => wl ρ1 ⟨fun p2 lo ρ2 => wh ρ2 ⟨fun p3 hi ρ3 => hold x.1 (p2 ++ p3) = true ∧ oSl x lo hi fun z => P.ok (p1 ++ (p2 ++ p3)) z ρ3, P.ex⟩, P.ex⟩, P.ex⟩
theorem te_sl {we : DE (Kd × D)} {wl wh : DE (Option Int)} {Q : VK} (h : te K W (wSl we wl wh) σ H Q) : tSl (rSlU K) (te K W we) (tO K W wl) (tO K W wh) σ H Q := by
  obtain ⟨S, P, rfl, rfl, ok, w, k, ex⟩ := h
  refine ⟨S, _, rfl, rfl, ok, w, fun p1 x S1 w1 e1 ok1 t1 pr1 v1 h1 => ?_, ex⟩
  refine ⟨S1, _, e1, rfl, ok1, w1, fun p2 lo S2 w2 e2 ok2 t2 pr2 lo' h2 => ?_, fun C fl T e es okT tT dd hd => ex C fl T e es okT (t1.trans tT) dd hd⟩
  refine ⟨S2, _, e2, rfl, ok2, w2, fun p3 hi S3 w3 e3 ok3 t3 pr3 hi' h3 => ?_, fun C fl T e es okT tT dd hd => ex C fl T e es okT ((t1.trans t2).trans tT) dd hd⟩
  cases h2; cases h3
  have t13 := (t1.trans t2).trans t3
  refine ok_Sl (S0 := S) ok3 (h1.stp ok1 (t2.trans t3) (e3.trans e1.symm) (pr2.trans pr3) w3.1) w3.2 fun z qz v G' H' g hz => ?_
  exact k _ _ (S3.at G' H') qz e3 (Sta.grow ok3 g) (t13.trans g.to) ((pr1.trans (pr2.trans pr3)).add g.tch) v (hz.from t13)
theorem q_sl {e : Expr} {lo hi : Option Expr} {we : DE (Kd × D)} {wl wh : DE (Option Int)} {p2 pos : Pos} (he : PE X e (te X.K W we)) (hl : PO X lo (tO X.K W wl)) (hh : PO X hi (tO X.K W wh)) : PE X (.Subscript e (.Slice lo hi none p2) pos) (te X.K W (wSl we wl wh)) :=
  PE.imp (pe_slice sl_any he hl hh) fun _ _ _ h => te_sl h
/-- a[b] -/
theorem q_ixU {a b : Expr} {wa wb : DE (Kd × D)} {pos : Pos} (hu : X.A.units + 1 < cLine) (ha : PE X a (te X.K W wa)) (hb : PE X b (te X.K W wb)) (hs : PlainIx b := by first | exact fun _ _ => rfl | (intro _ _; with_unfolding_all rfl)) : PE X (.Subscript a b pos) (te X.K W (wOp oIx wa wb)) := q_ix (ix_seq.or (ix_dict hu)) ok_Ix ha hb hs
/-! ### builtins -/
/-- one argument -/
def one1 (xs : List (Kd × D)) (q : Kd × D → Prop) : Prop := match xs with
  | [x] => q x
  | _ => False
def two2 (xs : List (Kd × D)) (q : Kd × D → Kd × D → Prop) : Prop := match xs with
  | [x, y] => q x y
  | _ => False
theorem one1_of {xs : List (Kd × D)} {q : Kd × D → Prop} (h : one1 xs q) : ∃ x, xs = [x] ∧ q x := by
  unfold one1 at h
  split at h
  · exact ⟨_, rfl, h⟩
  · exact h.elim
theorem two2_of {xs : List (Kd × D)} {q : Kd × D → Kd × D → Prop} (h : two2 xs q) : ∃ x y, xs = [x, y] ∧ q x y := by
  unfold two2 at h
  split at h
  · exact ⟨_, _, rfl, h⟩
  · exact h.elim
theorem HasA.one {vs : List V} {x : Kd × D} (h : HasA K S0 S vs [x]) : ∃ v, vs = [v] ∧ Has K S0 S x.1 v x.2 := by
  cases h with
  | cons h t => cases t; exact ⟨_, rfl, h⟩
theorem HasA.two {vs : List V} {x y : Kd × D} (h : HasA K S0 S vs [x, y]) : ∃ v u, vs = [v, u] ∧ Has K S0 S x.1 v x.2 ∧ Has K S0 S y.1 u y.2 := by
  cases h with
  | cons h t =>
    obtain ⟨u, rfl, h'⟩ := t.one
    exact ⟨_, _, rfl, h, h'⟩
/-- len -/
def lenD : D → Option Nat
  | .lst ds => some ds.length
  | .tup ds => some ds.length
  | .dct ds => some ds.length
  | .scr ns => some ns.length
  | .str z => if small z.length = true then some z.length else none
  | _ => none
def oLen : OL := fun xs q => one1 xs fun x => optK (lenD x.2) fun n => q (.fz, .int n)
def rLenU (K : PySem.W.Frag) : List V → Hp → VK → Prop := fun xs H Q => (∃ p ys, xs = [.ref p] ∧ (SqL K H p ys ∨ SqT K H p ys) ∧ Q (.int ys.length) H) ∨ (∃ z, xs = [.str z] ∧ z.length ≤ sizeLine ∧ Q (.int z.length) H) ∨ ∃ a kvs, xs = [V.ref a] ∧ Rd H a (.dK kvs) ∧ Q (.int kvs.length) H
theorem CallR.or {fv : Value} {r r' : List V → Hp → VK → Prop} (h : CallR X fv r) (h' : CallR X fv r') : CallR X fv (fun xs H Q => r xs H Q ∨ r' xs H Q) := fun pins s σ H xs us Q I rx q => by
  rcases q with q | q
  · exact h pins s σ H xs us Q I rx q
  · exact h' pins s σ H xs us Q I rx q
theorem call_lenR : CallR X (.builtin "len") (fun xs H Q => ∃ a kvs, xs = [V.ref a] ∧ Rd H a (.dK kvs) ∧ Q (.int kvs.length) H) := by
  intro pins s σ H xs us Q I r h
  obtain ⟨a, kvs, rfl, ha, q⟩ := h
  obtain ⟨u, rfl, ru⟩ := vals1 r
  cases ru
  exact d_len I ha fun t s' I' => ⟨.int kvs.length, H, I', ⟨t, rfl⟩, q⟩
theorem call_lenU : CallR X (.builtin "len") (rLenU X.K) := CallR.or call_len_seq (CallR.or call_len_str call_lenR)
theorem ok_Len : OkRL K (rLenU K) oLen := fun S0 S vs xs Q q ok hA h0 k => by
  obtain ⟨x, rfl, h⟩ := one1_of h0
  obtain ⟨n, en, qn⟩ := optK_of h
  obtain ⟨v, rfl, hx⟩ := hA.one
  obtain ⟨kd, d⟩ := x
  have fin := stay ok k qn (v := .int n) (.int _)
  have hd := hx.dt ok
  cases d with
  | lst ds =>
    cases en
    cases hd with
    | lst h1 h2 => exact .inl ⟨_, _, rfl, .inl (.of h1), by rw [h2.len]; exact fin⟩
  | tup ds =>
    cases en
    cases hd with
    | tup h1 h2 => exact .inl ⟨_, _, rfl, .inr h1, by rw [h2.len]; exact fin⟩
  | dct ds =>
    cases en
    cases hd with
    | dct h1 h2 => exact .inr (.inr ⟨_, _, rfl, h1, by rw [h2.len]; exact fin⟩)
  | scr ns =>
    cases en
    cases hd with
    | scr h1 => exact .inl ⟨_, _, rfl, .inl h1, by rw [List.length_map]; exact fin⟩
  | str z =>
    simp only [lenD] at en
    split at en
    · rename_i hz
      cases en
      cases hd with
      | str => exact .inr (.inl ⟨z, rfl, small_sz hz, fin⟩)
    · cases en
  | _ => cases en
/-- list(..) of a list, a tuple, a dict -/
def oList : OL := fun xs q => one1 xs fun x => match x.2 with
  | .dct _ => dctK x fun ds => q (.new (.L .F), .lst (ds.map fun kv => kD kv.1))
  | _ => itmK x fun ds => q (.new (.L .F), .lst ds)
def rListU (K : PySem.W.Frag) : List V → Hp → VK → Prop := fun xs H Q => (∃ p ys, xs = [.ref p] ∧ (SqL K H p ys ∨ SqT K H p ys) ∧ ∀ l, H l = none → Q (.ref l) (upd H l (.lst ys))) ∨ ∃ (a : Addr) (kvs : List (Key × V)), xs = [.ref a] ∧ Rd H a (.dK kvs) ∧ ∀ p, H p = none → Q (.ref p) (upd H p (.lst (kvs.map fun kv => L2.kV kv.1)))
theorem call_listU (hc : X.calm = true) : CallR X (.type "list") (rListU X.K) := CallR.or call_list_of (call_listD hc)
theorem DtK.keys : ∀ {vs : List (Key × V)} {ds : List (Key × D)}, DtK K G vs ds → DtA K G (vs.map fun kv => L2.kV kv.1) (ds.map fun kv => kD kv.1)
  | _, _, .nil => .nil
  | _, _, .cons h t => .cons (Dt.kV _) (DtK.keys t)
theorem ok_List : OkRL K (rListU K) oList := fun S0 S vs xs Q q ok hA h0 k => by
  obtain ⟨x, rfl, h⟩ := one1_of h0
  obtain ⟨v, rfl, hx⟩ := hA.one
  split at h
  · rename_i e1
    obtain ⟨a, kvs, ds, rfl, h1, h2, h⟩ := hx.dctR ok h
    exact .inr ⟨a, kvs, rfl, h1, fun p hp => new_lst ok k h h2.keys hp⟩
  · obtain ⟨a, ys, ds, rfl, h1, h2, h⟩ := hx.itmR ok h
    exact .inl ⟨a, ys, rfl, h1, fun p hp => new_lst ok k h h2 hp⟩
/-- tuple(..) of a list or a tuple -/
def oTuple : OL := fun xs q => one1 xs fun x => itmK x fun ds => q (.fz, .tup ds)
theorem ok_Tuple : OkRL K (fun xs H Q => ∃ p ys, xs = [.ref p] ∧ ((SqL K H p ys ∧ ∀ l, H l = none → Q (.ref l) (upd H l (.tup ys))) ∨ (SqT K H p ys ∧ Q (.ref p) H))) oTuple := fun S0 S vs xs Q q ok hA h0 k => by
  obtain ⟨⟨kd, d⟩, rfl, h⟩ := one1_of h0
  obtain ⟨v, rfl, hx⟩ := hA.one
  by_cases c : ∃ l, d = .tup l
  · obtain ⟨l, rfl⟩ := c
    obtain ⟨a, ys, ds, rfl, h1, dx, h2, h⟩ := tupR ok hx h
    exact ⟨a, ys, rfl, .inr ⟨h1, stay ok k h (v := .ref a) dx⟩⟩
  · have h' : lstK (kd, d) fun ds => q (.fz, .tup ds) := by
      unfold itmK at h
      split at h
      · rename_i l e
        cases e
        exact absurd ⟨_, rfl⟩ c
      · exact h
    obtain ⟨a, ys, ds, rfl, h1, h2, h⟩ := Has.lstR ok (x := (kd, d)) hx h'
    exact ⟨a, ys, rfl, .inl ⟨.of h1, fun p hp => new_tup ok k h h2 hp⟩⟩
/-- dict(..) of a dict -/
def oDict : OL := fun xs q => one1 xs fun x => dctK x fun ds => q (.new .K, .dct ds)
/-- lists of ints, of bools -/
def intsOf : List D → Option (List Int)
  | [] => some []
  | .int i :: r => match intsOf r with
    | some ns => some (i :: ns)
    | none => none
  | _ => none
def blsOf : List D → Option (List Bool)
  | [] => some []
  | .bl i :: r => match blsOf r with
    | some ns => some (i :: ns)
    | none => none
  | _ => none
theorem DtA.ints_of : ∀ {vs : List V} {ds : List D} {ns : List Int}, DtA K G vs ds → intsOf ds = some ns → vs = ns.map V.int
  | _, _, _, .nil, e => by cases e; rfl
  | _, _, _, .cons h t, e => by
    cases h <;> simp only [intsOf] at e <;> first
      | cases e
      | (split at e
         · rename_i e'
           cases e
           rw [DtA.ints_of t e']
           rfl
         · cases e)
theorem DtA.bls_of : ∀ {vs : List V} {ds : List D} {ns : List Bool}, DtA K G vs ds → blsOf ds = some ns → vs = ns.map V.bl
  | _, _, _, .nil, e => by cases e; rfl
  | _, _, _, .cons h t, e => by
    cases h <;> simp only [blsOf] at e <;> first
      | cases e
      | (split at e
         · rename_i e'
           cases e
           rw [DtA.bls_of t e']
           rfl
         · cases e)
def oSorted : OL := fun xs q => one1 xs fun x => lstK x fun ds => optK (intsOf ds) fun ns => ∀ ns' : List Int, ns'.Perm ns → ns'.Pairwise (· ≤ ·) → q (.new (.L .F), .lst (ns'.map .int))
theorem ok_Sorted : OkRL K (rSortedI K) oSorted := fun S0 S vs xs Q q ok hA h0 k => by
  obtain ⟨x, rfl, h⟩ := one1_of h0
  obtain ⟨v, rfl, hx⟩ := hA.one
  obtain ⟨a, ys, ds, rfl, h1, h2, h⟩ := hx.lstR ok h
  obtain ⟨ns, en, h⟩ := optK_of h
  have e := h2.ints_of en
  subst e
  exact ⟨a, ns, rfl, .of h1, fun ns' p h3 h4 hp => new_lst ok k (h ns' h3 h4) (DtA.ints ns') hp⟩
def oAll : OL := fun xs q => one1 xs fun x => lstK x fun ds => optK (blsOf ds) fun bs => q (.fz, .bl (bs.all id))
theorem ok_All : OkRL K (rAll K) oAll := fun S0 S vs xs Q q ok hA h0 k => by
  obtain ⟨x, rfl, h⟩ := one1_of h0
  obtain ⟨v, rfl, hx⟩ := hA.one
  obtain ⟨a, ys, ds, rfl, h1, h2, h⟩ := hx.lstR ok h
  obtain ⟨bs, en, h⟩ := optK_of h
  have e := h2.bls_of en
  subst e
  exact ⟨a, bs, rfl, .of h1, stay ok k h (v := .bl _) (.bl _)⟩
def oSum : OL := fun xs q => one1 xs fun x => lstK x fun ds => optK (intsOf ds) fun ns => q (.fz, .int ns.sum)
def oMax2 : OL := fun xs q => two2 xs fun x y => intK x.2 y.2 fun i j => q (.fz, .int (if j > i then j else i))
def oMin2 : OL := fun xs q => two2 xs fun x y => intK x.2 y.2 fun i j => q (.fz, .int (if j < i then j else i))
theorem ok_Min2 : OkRL K (fun xs H Q => ∃ i j, xs = [.int i, .int j] ∧ Q (.int (if j < i then j else i)) H) oMin2 := fun S0 S vs xs Q q ok hA h0 k => by
  obtain ⟨⟨k1, d1⟩, ⟨k2, d2⟩, rfl, h⟩ := two2_of h0
  obtain ⟨v, u, rfl, hx, hy⟩ := hA.two
  obtain ⟨i, j, rfl, rfl, h⟩ := intK_of (h : intK d1 d2 _)
  obtain rfl := hx.int_inv ok
  obtain rfl := hy.int_inv ok
  exact ⟨i, j, rfl, stay ok k h (v := .int _) (.int _)⟩
/-- max, min of a list of ints -/
def oMaxL : OL := fun xs q => one1 xs fun x => lstK x fun ds => optK (intsOf ds) fun ns => 0 < ns.length ∧ ∀ m, m ∈ ns → (∀ y, y ∈ ns → y ≤ m) → q (.fz, .int m)
def oMinL : OL := fun xs q => one1 xs fun x => lstK x fun ds => optK (intsOf ds) fun ns => 0 < ns.length ∧ ∀ m, m ∈ ns → (∀ y, y ∈ ns → m ≤ y) → q (.fz, .int m)
/-- int(..) of an int or a bool -/
def oInt : OL := fun xs q => one1 xs fun x => match x.2 with
  | .int i => q (.fz, .int i)
  | .bl b => q (.fz, .int (if b then 1 else 0))
  | _ => False
def oAbs : OL := fun xs q => one1 xs fun x => match x.2 with
  | .int i => q (.fz, .int (if i < 0 then -i else i))
  | _ => False
def oStr : OL := fun xs q => one1 xs fun x => match x.2 with
  | .int i => i.natAbs.log2 < 1920 ∧ q (.fz, .str (toString i))
  | _ => False
/-! ### isinstance -/
def tyN : D → Option String
  | .non => some "NoneType"
  | .bl _ => some "bool"
  | .int _ => some "int"
  | .str _ => some "str"
  | .lst _ => some "list"
  | .tup _ => some "tuple"
  | .dct _ => some "dict"
  | .scr _ => some "list"
  | .obj _ _ => none
  | .exc _ => none
  | .ndc _ => none
/-- is the type's name t of the class T: the builtin ones -/
def isTy (t T : String) : Bool := t == T || (t == "bool" && T == "int")
theorem TyX.lst {a : Addr} {xs : List V} (h : SqL K H a xs) : TyX K H (.ref a) (.type "list") := by
  rcases h with (h | ⟨o, h⟩) | ⟨o, its, n, hk, hc, _⟩
  · exact .base (.lst h)
  · exact .base (.frz h)
  · exact .kList hk hc
theorem TyX.tup {a : Addr} {xs : List V} (h : SqT K H a xs) : TyX K H (.ref a) (.type "tuple") := by
  rcases h with (h | ⟨o, h⟩) | ⟨o, its, n, hk, hc, _⟩
  · exact .base (.tup h)
  · exact .fTuple h
  · exact .kTuple hk hc
theorem Dt.tyX {v : V} {d : D} {t : String} (h : Dt K G v d) (e : tyN d = some t) : TyX K G v (.type t) := by
  cases h with
  | non => cases e; exact .base .non
  | bl => cases e; exact .base (.bl _)
  | int => cases e; exact .base (.int _)
  | str => cases e; exact .base (.str _)
  | lst h1 h2 => cases e; exact .base (.lst h1)
  | tup h1 h2 => cases e; exact TyX.tup h1
  | dct h1 h2 =>
    cases e
    rcases h1 with h1 | ⟨o, h1⟩
    · exact .base (.dK h1)
    · exact .fDict h1
  | scr h1 => cases e; exact TyX.lst h1
  | obj => cases e
  | exc => cases e
  | ndc => cases e
def wIsi (T : String) (we : DE (Kd × D)) : DE (Kd × D) := fun ρ P => we ρ ⟨fun p x ρ' => optK (tyN x.2) fun t => P.ok p (.fz, .bl (isTy t T)) ρ', P.ex⟩
def goodTy (T : String) : Bool := ["NoneType", "bool", "int", "str", "list", "tuple", "dict"].all fun t => match kitB t T with
  | some b => b == isTy t T
  | none => false
theorem tyN_mem {d : D} {t : String} (e : tyN d = some t) : t ∈ ["NoneType", "bool", "int", "str", "list", "tuple", "dict"] := by
  cases d <;> cases e <;> decide
theorem te_isi {T : String} {we : DE (Kd × D)} {Q : VK} (hT : goodTy T = true) (h : te K W (wIsi T we) σ H Q) : tCB (rIsi K) (tCons (te K W we) (tCons (tC (.ty T)) tNil)) σ H Q := by
  obtain ⟨S, P, rfl, rfl, ok, w, k, ex⟩ := h
  refine ⟨S, _, rfl, rfl, ok, w, fun p x T' e es okT t tc v hv => ?_, ex⟩
  obtain ⟨tn, et, q⟩ := optK_of e
  have hk : kitB tn T = some (isTy tn T) := by
    have h9 := List.all_eq_true.mp hT tn (tyN_mem et)
    split at h9
    · rename_i b eb
      rw [eb]
      exact congrArg some (by simpa using h9)
    · cases h9
  exact ⟨v, .ty T, .type tn, .type T, isTy tn T, rfl, .ty T, (hv.dt okT).tyX et, kit_ty hk, k _ _ T' q es okT t tc _ (.bl _)⟩
theorem q_isi (T : String) {x : Str} {e : Expr} {we : DE (Kd × D)} {p p2 pos : Pos} (hm : X.mg "isinstance" = none) (hmT : X.mg x = none) (he : PE X e (te X.K W we)) (hv : bootBuiltins x = some (.type T) := by rfl) (hg : Gl X "isinstance" := by rfl) (hgT : Gl X x := by rfl) (hT : goodTy T = true := by decide +kernel)
    (hn : x ≠ "__name__" := by decide) (hdb : (x == ("__debug__" : Str)) = false := by decide) (hs : starEach [e, .Name x p2] X.env = (false, eval e X.env) :: starEach [.Name x p2] X.env := by rfl) (hs2 : starEach [.Name x p2] X.env = (false, eval (.Name x p2) X.env) :: starEach [] X.env := by rfl) (hpl : (backTo pos (starEach [.Name x p2] X.env)).any (·.1) = false := by rfl) :
    PE X (.Call (.Name "isinstance" p) [e, .Name x p2] [] pos) (te X.K W (wIsi T we)) :=
  PE.imp (pe_callB call_isi hg hm (by rfl) (pa_cons he (pa_cons (pe_bltn (v := .ty T) hgT hmT hv rfl hn hdb) pa_nil hs2) hs) (by decide) (by decide) hs hpl) fun _ _ _ h => te_isi hT h
end
end VL

namespace VL
open PySem PySem.Spec PyProof.Rows L2
section
variable {K : PySem.W.Frag} {W : WX} {G G' H H' H0 : Hp} {σ : L2.St} {ρ : Rho} {f f' : Own} {pin : Nat → Option V} {X : Cx} {S S0 S1 T T1 T2 U : Sta} {E : En} {Z : Ends}
/-! ### a list's methods -/
def mApp : OM := fun ds es q => match es with
  | [x] => small (ds.length + 1) = true ∧ q (ds ++ [x]) .non
  | _ => False
theorem small_lt {n : Nat} (h : small (n + 1) = true) : n < sizeLine := Nat.lt_of_lt_of_le (Nat.lt_succ_self _) (small_sz h)
theorem ok_App : OkML K rAppend mApp := fun G H a xs ds vs es Q q e ha ga hx hv h k => by
  unfold mApp at h
  split at h
  · cases hv with
    | cons h1 t =>
      cases t
      exact ⟨a, xs, _, rfl, rfl, ha, by rw [hx.len]; exact small_lt h.1, k _ _ h.2 _ _ (hx.append (.cons h1 .nil)) .non⟩
  · exact h.elim
def mExt : OM := fun ds es q => match es with
  | [.lst xs] => small (ds.length + xs.length) = true ∧ q (ds ++ xs) .non
  | _ => False
theorem ok_Ext : OkML K rExtend mExt := fun G H a xs ds vs es Q q e ha ga hx hv h k => by
  unfold mExt at h
  split at h
  · cases hv with
    | cons h1 t =>
      cases t
      cases h1 with
      | lst hG hk => exact ⟨a, _, xs, _, rfl, rfl, ha, e _ _ hG, by rw [hx.len, hk.len]; exact small_sz h.1, k _ _ h.2 _ _ (hx.append hk) .non⟩
  · exact h.elim
def mClear : OM := fun ds es q => match es with
  | [] => q [] .non
  | _ => False
def mRev : OM := fun ds es q => match es with
  | [] => q ds.reverse .non
  | _ => False
theorem DtA.dropLast : ∀ {vs : List V} {ds : List D}, DtA K G vs ds → DtA K G vs.dropLast ds.dropLast
  | _, _, .nil => .nil
  | _, _, .cons h .nil => .nil
  | _, _, .cons h (.cons h' t) => .cons h (DtA.dropLast (.cons h' t))
theorem DtA.erase : ∀ {vs : List V} {ds : List D} (j : Nat), DtA K G vs ds → DtA K G (vs.eraseIdx j) (ds.eraseIdx j)
  | _, _, _, .nil => .nil
  | _, _, 0, .cons h t => t
  | _, _, j + 1, .cons h t => .cons h (DtA.erase j t)
def mPop : OM := fun ds es q => match es with
  | [] => optK ds[ds.length - 1]? fun d => q ds.dropLast d
  | [.int i] => (-(2 ^ 63) ≤ i ∧ i < 2 ^ 63) ∧ optK (seqIndex? i ds.length) fun j => optK ds[j]? fun d => q (ds.eraseIdx j) d
  | _ => False
theorem ok_Pop : OkML K (fun x vs H Q => rPop x vs H Q ∨ rPopAt x vs H Q) mPop := fun G H a xs ds vs es Q q e ha ga hx hv h k => by
  unfold mPop at h
  split at h
  · cases hv
    obtain ⟨d, ed, h⟩ := optK_of h
    obtain ⟨v, ev, hd⟩ := hx.get ed
    exact .inl ⟨a, xs, v, rfl, rfl, ha, by rw [hx.len]; exact ev, k _ _ h _ _ hx.dropLast hd⟩
  · rename_i i
    cases hv with
    | cons h1 t =>
      cases t
      cases h1
      obtain ⟨j, ej, h2⟩ := optK_of h.2
      obtain ⟨d, ed, h2⟩ := optK_of h2
      obtain ⟨v, ev, hd⟩ := hx.get ed
      exact .inr ⟨a, xs, i, j, v, rfl, rfl, ha, h.1.1, h.1.2, by rw [hx.len]; exact ej, ev, k _ _ h2 _ _ (hx.erase j) hd⟩
  · exact h.elim
theorem mt_popU : MtR X "list.pop" (fun x vs H Q => rPop x vs H Q ∨ rPopAt x vs H Q) := MtR.or mt_pop mt_popAt
def q_app' := @te_mut
section
variable {o : Expr} {wr : DE (Kd × D)} {wa : DE (List (Kd × D))} {e : Expr} {es : List Expr} {name : Str} {id : String} {r : V → List V → Hp → VK → Prop} {om : OM} {apos cpos : Pos}
theorem q_lm (slot : Slot "list" name id) (hty : typeOf (.builtin id) = pure (.type "method_descriptor")) (hm : MtR X id r) (hr : OkML X.K r om) (ho : PE X o (te X.K W wr)) (ha : PA X (e :: es) (ta X.K W wa))
    (hbase : attributeBase o name X.env (eval o X.env) = eval o X.env := by rfl)
    (hfew : ((backTo cpos (starEach (e :: es) X.env)).all (fun x => !x.1) && (backToKw cpos (keywordEach [] X.env)).all (fun x => x.1.isSome) && decide ((e :: es).length + ([] : List Keyword).length + (if ([] : List Keyword).isEmpty then 0 else 1) < 30)) = true := by rfl)
    (hline : (apos.endLine == cpos.line) = true := by rfl) (hs : starEach (e :: es) X.env = (false, eval e X.env) :: starEach es X.env := by rfl) (hplain : (backTo cpos (starEach es X.env)).any (·.1) = false := by rfl) :
    PE X (.Call (.Attribute o name apos) (e :: es) [] cpos) (te X.K W (wMut om wr wa)) := PE.imp (pe_bm PySem.F.plainAttrs_list slot hty hm ho ha hbase hfew hline hs hplain) fun _ _ _ h => te_mut hr h
theorem te_mut0 {Q : VK} (hr : OkML K r om) (h : te K W (wMut om wr wNil) σ H Q) : tBM0 K "list" r (te K W wr) σ H Q := by
  have h1 := te_mut hr h
  obtain ⟨S, P, rfl, rfl, ok, w, k, ex⟩ := h1
  exact ⟨S, P, rfl, rfl, ok, w, fun p x T a b c d e v hv => by
    obtain ⟨g1, g2⟩ := k p x T a b c d e v hv
    exact ⟨g1, ta_nil g2⟩, ex⟩
theorem q_lm0 (slot : Slot "list" name id) (hty : typeOf (.builtin id) = pure (.type "method_descriptor")) (hm : MtR X id r) (hr : OkML X.K r om) (ho : PE X o (te X.K W wr))
    (hbase : attributeBase o name X.env (eval o X.env) = eval o X.env := by rfl) (hline : (apos.endLine == cpos.line) = true := by rfl) :
    PE X (.Call (.Attribute o name apos) [] [] cpos) (te X.K W (wMut om wr wNil)) := PE.imp (pe_bm0 PySem.F.plainAttrs_list slot hty hm ho hbase hline) fun _ _ _ h => te_mut0 hr h
end
/-! ### a dict's methods -/
def isDct : D → Bool
  | .dct _ => true
  | _ => false
/-- d.get(k), d.get(k, x) -/
def oGet (x : Kd × D) (es : List (Kd × D)) (q : Kd × D → Prop) : Prop := match es with
  | [y] => optK (keyOf y.2) fun k => dctK x fun ds => match valD ds k with
    | some d => q (.fz, d)
    | none => q (.fz, .non)
  | [y, (.fz, z)] => optK (keyOf y.2) fun k => dctK x fun ds => match valD ds k with
    | some d => q (.fz, d)
    | none => q (.fz, z)
  | _ => False
def rGetU : V → List V → Hp → VK → Prop := fun x vs H Q => (∃ a y o, x = .ref a ∧ vs = [y] ∧ DGet H a y o ∧ Q (o.getD .non) H) ∨ ∃ a y z o, x = .ref a ∧ vs = [y, z] ∧ DGet H a y o ∧ Q (o.getD z) H
theorem mt_getU (hu : X.A.units + 1 < cLine) : MtR X "dict.get" rGetU := by
  intro pins s σ H x vs v us Q I rx rv h
  rcases h with ⟨a, y, o, rfl, rfl, g, q⟩ | ⟨a, y, z, o, rfl, rfl, g, q⟩
  · obtain rfl : v = Value.ref a := rx
    obtain ⟨u, rfl, ru⟩ := rv.one
    exact d_get1 hu I g ru fun w' s' I' r' => ⟨_, H, I', r', q⟩
  · obtain rfl : v = Value.ref a := rx
    obtain ⟨u, u', rfl, ru, ru'⟩ := rv.two
    exact d_get2 hu I g ru ru' fun w' s' I' r' => ⟨_, H, I', r', q⟩
def wGet (wr : DE (Kd × D)) (wa : DE (List (Kd × D))) : DE (Kd × D) := fun ρ P => wr ρ ⟨fun p1 x ρ1 => isDct x.2 = true ∧ wa ρ1 ⟨fun p2 es ρ2 => hold x.1 p2 = true ∧ oGet x es fun z => P.ok (p1 ++ p2) z ρ2, P.ex⟩, P.ex⟩
def tBMD (r : V → List V → Hp → VK → Prop) (to : TE) (t : TA) : TE := fun σ H Q => to σ H fun x H1 => (∃ a, x = .ref a ∧ IsD H1 a) ∧ t σ H1 fun xs H2 => r x xs H2 Q
/-- a dict's method, the dict locked or not -/
theorem pe_bmD {o e : Expr} {es : List Expr} {to : TE} {t : TA} {name : Str} {apos cpos : Pos} {id : String} {r : V → List V → Hp → VK → Prop} (pa : PlainAttrs "dict") (slot : Slot "dict" name id) (hty : typeOf (.builtin id) = pure (.type "method_descriptor")) (hm : MtR X id r) (ho : PE X o to) (ha : PA X (e :: es) t)
    (hbase : attributeBase o name X.env (eval o X.env) = eval o X.env := by rfl)
    (hfew : ((backTo cpos (starEach (e :: es) X.env)).all (fun x => !x.1) && (backToKw cpos (keywordEach [] X.env)).all (fun x => x.1.isSome)
      && decide ((e :: es).length + ([] : List Keyword).length + (if ([] : List Keyword).isEmpty then 0 else 1) < 30)) = true := by rfl)
    (hline : (apos.endLine == cpos.line) = true := by rfl) (hs : starEach (e :: es) X.env = (false, eval e X.env) :: starEach es X.env := by rfl) (hplain : (backTo cpos (starEach es X.env)).any (·.1) = false := by rfl) :
    PE X (.Call (.Attribute o name apos) (e :: es) [] cpos) (tBMD r to t) := by
  refine ⟨fun pins s σ H Q I h => ?_⟩
  refine wpAny_Call_method_late hbase hfew hline rfl (thn (ho.run pins s σ H _ I h) fun v s1 ⟨x, H1, I1, r1, ⟨a, ex, d⟩, q1⟩ => ?_)
  subst ex
  obtain rfl : v = Value.ref a := r1
  obtain ⟨h1, h2, _⟩ := isD_at I1 d
  refine ⟨"dict", id, pa, slot, hty, h1, h2, ?_⟩
  have hA := ha.run cpos pins s1 σ H1 _ I1 q1
  rw [hs] at hA ⊢
  refine Calls.callWith_builtin (by show (false || (backTo cpos (starEach es X.env)).any (·.1)) = false; rw [hplain] <;> rfl) (Calls.evalArgs_plain ?_)
  exact thn hA fun us s2 ⟨vs, H2, I2, r2, q2⟩ => hm pins s2 σ H2 _ vs _ us Q I2 (by rfl) r2 q2
theorem Has.tyD (ok : S.ok K) {x : Kd × D} {v : V} (h : Has K S0 S x.1 v x.2) (e : isDct x.2 = true) : ∃ a, v = .ref a ∧ IsD S.H a := by
  obtain ⟨kd, d⟩ := x
  have q := h.dt ok
  cases d with
  | dct ds =>
    cases q with
    | dct hG hk => exact ⟨_, rfl, .inl ⟨_, hG⟩⟩
  | _ => cases e
theorem te_get {wr : DE (Kd × D)} {wa : DE (List (Kd × D))} {Q : VK} (h : te K W (wGet wr wa) σ H Q) : tBMD rGetU (te K W wr) (ta K W wa) σ H Q := by
  obtain ⟨S, P, rfl, rfl, ok, w, k, ex⟩ := h
  refine ⟨S, _, rfl, rfl, ok, w, fun p1 x S1 w1 e1 ok1 t1 pr1 v1 h1 => ?_, ex⟩
  refine ⟨h1.tyD ok1 w1.1, S1, _, e1, rfl, ok1, w1.2, fun p2 es S2 w2 e2 ok2 t2 pr2 vs h2 => ?_, fun C fl T e es okT tT dd hd => ex C fl T e es okT (t1.trans tT) dd hd⟩
  have hx : Has K S S2 x.1 v1 x.2 := h1.stp ok1 t2 (e2.trans e1.symm) pr2 w2.1
  have w2' : oGet x es fun z => P.ok (p1 ++ p2) z S2.ρ := w2.2
  have fin : ∀ (z : D) (v : V), Dt K S2.G v z → P.ok (p1 ++ p2) (.fz, z) S2.ρ → Q v S2.H := fun z v hz q => k _ _ S2 q e2 ok2 (t1.trans t2) (pr1.trans pr2) v hz
  unfold oGet at w2'
  split at w2'
  · rename_i y
    obtain ⟨key, ek, w2'⟩ := optK_of w2'
    obtain ⟨a, kvs, ds, rfl, hG, hk, w2'⟩ := hx.dctR ok2 w2'
    obtain ⟨u, rfl, hy⟩ := h2.one
    have hyv := (hy.dt ok2).key ek
    subst hyv
    refine .inl ⟨a, _, valV kvs key, rfl, rfl, .inl ⟨_, _, hG, rfl, rfl⟩, ?_⟩
    rcases hk.val (k := key) with ⟨q1, q2⟩ | ⟨v, d, q1, q2, hd⟩
    · rw [q1] at w2'
      rw [q2]
      exact fin _ _ .non w2'
    · rw [q1] at w2'
      rw [q2]
      exact fin _ _ hd w2'
  · rename_i y z
    obtain ⟨key, ek, w2'⟩ := optK_of w2'
    obtain ⟨a, kvs, ds, rfl, hG, hk, w2'⟩ := hx.dctR ok2 w2'
    obtain ⟨u, u', rfl, hy, hz⟩ := h2.two
    have hyv := (hy.dt ok2).key ek
    subst hyv
    refine .inr ⟨a, _, u', valV kvs key, rfl, rfl, .inl ⟨_, _, hG, rfl, rfl⟩, ?_⟩
    rcases hk.val (k := key) with ⟨q1, q2⟩ | ⟨v, d, q1, q2, hd⟩
    · rw [q1] at w2'
      rw [q2]
      exact fin _ _ hz w2'
    · rw [q1] at w2'
      rw [q2]
      exact fin _ _ hd w2'
  · exact w2'.elim
section
variable {o e : Expr} {es : List Expr} {wr : DE (Kd × D)} {wa : DE (List (Kd × D))} {apos cpos : Pos}
theorem q_get (hu : X.A.units + 1 < cLine) (ho : PE X o (te X.K W wr)) (ha : PA X (e :: es) (ta X.K W wa)) (hbase : attributeBase o "get" X.env (eval o X.env) = eval o X.env := by rfl)
    (hfew : ((backTo cpos (starEach (e :: es) X.env)).all (fun x => !x.1) && (backToKw cpos (keywordEach [] X.env)).all (fun x => x.1.isSome) && decide ((e :: es).length + ([] : List Keyword).length + (if ([] : List Keyword).isEmpty then 0 else 1) < 30)) = true := by rfl)
    (hline : (apos.endLine == cpos.line) = true := by rfl) (hs : starEach (e :: es) X.env = (false, eval e X.env) :: starEach es X.env := by rfl) (hplain : (backTo cpos (starEach es X.env)).any (·.1) = false := by rfl) :
    PE X (.Call (.Attribute o "get" apos) (e :: es) [] cpos) (te X.K W (wGet wr wa)) := PE.imp (pe_bmD PySem.F.plainAttrs_dict PySem.F.slot_dict_get PySem.F.type_dict_get (mt_getU hu) ho ha hbase hfew hline hs hplain) fun _ _ _ h => te_get h
end
/-- a dict of one's own gets other entries -/
theorem Has.dctO (ok : T.ok K) {i : Nat} {p : List Nat} {v : V} {ds : List (Key × D)} (h : Has K S0 T (.bor i p .K) v (.dct ds)) : ∃ a xs, v = .ref a ∧ T.H a = some (.dK xs) ∧ DtK K T.G xs ds ∧ T.G a = none ∧ Lent K T i p .K (.ref a) (.dct ds) [a] := by
  obtain ⟨fq, l⟩ := h.lent ok
  have r := l.r
  cases r with
  | K ha t => exact ⟨_, _, rfl, ha, t, ok.out i _ (l.sub _ List.mem_cons_self), l⟩
theorem dct_put (ok : T.ok K) {i : Nat} {p : List Nat} {a : Addr} {ds ds' : List (Key × D)} {xs' : List (Key × V)} (l : Lent K T i p .K (.ref a) (.dct ds) [a]) (h' : DtK K T.G xs' ds') :
    ∃ U : Sta, U.ok K ∧ T.to U ∧ Tch [i] T U ∧ U.σ = T.σ ∧ U.H = upd T.H a (.dK xs') ∧ U.ρ = setAt T.ρ i p (.dct ds') ∧ U.G = T.G := by
  obtain ⟨f2, z1, z2, z3⟩ := mut_state (o' := .dK xs') (d' := .dct ds') ok l List.mem_cons_self (.K upd_same h') (by simp) (fun b hb => hb)
  exact ⟨_, z1, z2, z3, rfl, rfl, rfl, rfl⟩
/-- d.pop(k), d.pop(k, x) -/
def dPopK (x : Kd × D) (es : List (Kd × D)) (q : Nat → List Nat → D → D → Prop) (q0 : D → Prop) : Prop := match x, es with
  | (.bor i p .K, .dct ds), [y] => optK (keyOf y.2) fun k => optK (valD ds k) fun d => q i p (.dct (dropKD ds k)) d
  | (.bor i p .K, .dct ds), [y, (.fz, z)] => optK (keyOf y.2) fun k => match valD ds k with
    | some d => q i p (.dct (dropKD ds k)) d
    | none => q0 z
  | _, _ => False
def wPopD (wr : DE (Kd × D)) (wa : DE (List (Kd × D))) : DE (Kd × D) := fun ρ P => wr ρ ⟨fun p1 x ρ1 => isDct x.2 = true ∧ wa ρ1 ⟨fun p2 es ρ2 => hold x.1 p2 = true ∧ dPopK x es (fun i p d' z => P.ok (p1 ++ (p2 ++ [i])) (.fz, z) (setAt ρ2 i p d')) (fun z => P.ok (p1 ++ p2) (.fz, z) ρ2), P.ex⟩, P.ex⟩
def rPopU : V → List V → Hp → VK → Prop := fun x vs H Q => (∃ a kvs k v, x = .ref a ∧ vs = [kV k] ∧ H a = some (.dK kvs) ∧ valV kvs k = some v ∧ Q v (upd H a (.dK (dropK kvs k)))) ∨
  ∃ a kvs k z, x = .ref a ∧ vs = [kV k, z] ∧ H a = some (.dK kvs) ∧ (∀ v, valV kvs k = some v → Q v (upd H a (.dK (dropK kvs k)))) ∧ (valV kvs k = none → Q z H)
theorem mt_popU2 : MtR X "dict.pop" rPopU := by
  intro pins s σ H x vs v us Q I rx rv h
  rcases h with ⟨a, kvs, k, w, rfl, rfl, ea, l, q⟩ | ⟨a, kvs, k, z, rfl, rfl, ea, q1, q2⟩
  · obtain rfl : v = Value.ref a := rx
    obtain ⟨u, rfl, ru⟩ := rv.one
    exact d_pop I ea ru l (.inl rfl) fun w' s' I' r' => ⟨_, _, I', r', q⟩
  · obtain rfl : v = Value.ref a := rx
    obtain ⟨u, u', rfl, ru, ru'⟩ := rv.two
    cases l : valV kvs k with
    | some w => exact d_pop I ea ru l (.inr ⟨u', rfl⟩) fun w' s' I' r' => ⟨w, _, I', r', q1 w l⟩
    | none => exact d_popD I ea ru l fun s' I' => ⟨z, H, I', ru', q2 l⟩
theorem te_popD {wr : DE (Kd × D)} {wa : DE (List (Kd × D))} {Q : VK} (h : te K W (wPopD wr wa) σ H Q) : tBMD rPopU (te K W wr) (ta K W wa) σ H Q := by
  obtain ⟨S, P, rfl, rfl, ok, w, k, ex⟩ := h
  refine ⟨S, _, rfl, rfl, ok, w, fun p1 x S1 w1 e1 ok1 t1 pr1 v1 h1 => ?_, ex⟩
  refine ⟨h1.tyD ok1 w1.1, S1, _, e1, rfl, ok1, w1.2, fun p2 es S2 w2 e2 ok2 t2 pr2 vs h2 => ?_, fun C fl T e es okT tT dd hd => ex C fl T e es okT (t1.trans tT) dd hd⟩
  have hx : Has K S S2 x.1 v1 x.2 := h1.stp ok1 t2 (e2.trans e1.symm) pr2 w2.1
  have w2' : dPopK x es (fun i p d' z => P.ok (p1 ++ (p2 ++ [i])) (.fz, z) (setAt S2.ρ i p d')) (fun z => P.ok (p1 ++ p2) (.fz, z) S2.ρ) := w2.2
  have put : ∀ (i : Nat) (p : List Nat) (a : Addr) (ds ds' : List (Key × D)) (xs' : List (Key × V)) (z : D) (v : V), Lent K S2 i p .K (.ref a) (.dct ds) [a] → DtK K S2.G xs' ds' → Dt K S2.G v z → P.ok (p1 ++ (p2 ++ [i])) (.fz, z) (setAt S2.ρ i p (.dct ds')) → Q v (upd S2.H a (.dK xs')) := fun i p a ds ds' xs' z v l hk hz q => by
    obtain ⟨U, okU, tU, cU, uσ, uH, uρ, uG⟩ := dct_put ok2 l hk
    have z9 := k (p1 ++ (p2 ++ [i])) (.fz, z) U (by rw [uρ]; exact q) (by rw [uσ, e2]) okU ((t1.trans t2).trans tU) (pr1.trans (pr2.trans cU)) v (show Dt K U.G v z by rw [uG]; exact hz)
    rw [uH] at z9
    exact z9
  unfold dPopK at w2'
  split at w2'
  · rename_i i p ds y
    obtain ⟨key, ek, w2'⟩ := optK_of w2'
    obtain ⟨d, ed, w2'⟩ := optK_of w2'
    obtain ⟨a, kvs, rfl, hG, hk, ga, l⟩ := hx.dctO ok2
    obtain ⟨u, rfl, hy⟩ := h2.one
    have hyv := (hy.dt ok2).key ek
    subst hyv
    rcases hk.val (k := key) with ⟨q1, q2⟩ | ⟨v, d', q1, q2, hd⟩
    · rw [q1] at ed; cases ed
    · rw [q1] at ed; cases ed
      exact .inl ⟨a, kvs, key, v, rfl, rfl, hG, q2, put i p a ds _ _ _ _ l hk.drop hd w2'⟩
  · rename_i i p ds y z
    obtain ⟨key, ek, w2'⟩ := optK_of w2'
    obtain ⟨a, kvs, rfl, hG, hk, ga, l⟩ := hx.dctO ok2
    obtain ⟨u, u', rfl, hy, hz⟩ := h2.two
    have hyv := (hy.dt ok2).key ek
    subst hyv
    refine .inr ⟨a, kvs, key, u', rfl, rfl, hG, fun v ev => ?_, fun ev => ?_⟩
    · rcases hk.val (k := key) with ⟨q1, q2⟩ | ⟨v', d', q1, q2, hd⟩
      · rw [q2] at ev; cases ev
      · rw [q2] at ev; cases ev
        rw [q1] at w2'
        exact put i p a ds _ _ _ _ l hk.drop hd w2'
    · rcases hk.val (k := key) with ⟨q1, q2⟩ | ⟨v', d', q1, q2, hd⟩
      · rw [q1] at w2'
        exact k _ _ S2 w2' e2 ok2 (t1.trans t2) (pr1.trans pr2) u' hz
      · rw [q2] at ev; cases ev
  · exact w2'.elim
section
variable {o e : Expr} {es : List Expr} {wr : DE (Kd × D)} {wa : DE (List (Kd × D))} {apos cpos : Pos}
theorem q_popD (ho : PE X o (te X.K W wr)) (ha : PA X (e :: es) (ta X.K W wa)) (hbase : attributeBase o "pop" X.env (eval o X.env) = eval o X.env := by rfl)
    (hfew : ((backTo cpos (starEach (e :: es) X.env)).all (fun x => !x.1) && (backToKw cpos (keywordEach [] X.env)).all (fun x => x.1.isSome) && decide ((e :: es).length + ([] : List Keyword).length + (if ([] : List Keyword).isEmpty then 0 else 1) < 30)) = true := by rfl)
    (hline : (apos.endLine == cpos.line) = true := by rfl) (hs : starEach (e :: es) X.env = (false, eval e X.env) :: starEach es X.env := by rfl) (hplain : (backTo cpos (starEach es X.env)).any (·.1) = false := by rfl) :
    PE X (.Call (.Attribute o "pop" apos) (e :: es) [] cpos) (te X.K W (wPopD wr wa)) := PE.imp (pe_bmD PySem.F.plainAttrs_dict PySem.F.slot_dict_pop PySem.F.type_dict_pop mt_popU2 ho ha hbase hfew hline hs hplain) fun _ _ _ h => te_popD h
end
/-! ### o[i] = v -/
def subK (r y : Kd × D) (v : D) (q : Nat → List Nat → D → Prop) : Prop := match r, y.2 with
  | (.bor i p (.L .F), .lst ds), .int k => optK (ixN ds.length k) fun j => q i p (.lst (ds.set j v))
  | (.bor i p .K, .dct ds), d => optK (keyOf d) fun k => small (ds.length + 1) = true ∧ q i p (.dct (putKD ds k v))
  | _, _ => False
theorem DtA.set : ∀ {vs : List V} {ds : List D} (j : Nat) {v : V} {d : D}, DtA K G vs ds → Dt K G v d → DtA K G (vs.set j v) (ds.set j d)
  | _, _, _, _, _, .nil, _ => .nil
  | _, _, 0, _, _, .cons h t, hv => .cons hv t
  | _, _, j + 1, _, _, .cons h t, hv => .cons h (DtA.set j t hv)
def wSub (wv wr wi : DE (Kd × D)) : DS := fun E ρ => wFz wv ρ ⟨fun _ x ρ1 => x.1.md = some .F ∧ wr ρ1 ⟨fun _ r ρ2 => wi ρ2 ⟨fun p3 y ρ3 => hold r.1 p3 = true ∧ subK r y x.2 fun i p d' => E.nx (setAt ρ3 i p d'), E.ex⟩, E.ex⟩, E.ex⟩
theorem Kd.md_F {k : Kd} (h : k.md = some .F) : k = .fz ∨ k = .new .F := by
  cases k with
  | fz => exact .inl rfl
  | new m => cases h; exact .inr rfl
  | bor i p m => cases h
theorem ts_sub {wv wr wi : DE (Kd × D)} (h : ts K W (wSub wv wr wi) Z σ H) : tAsg (te K W wv) (gSub (te K W wr) (te K W wi) fun o i v H Q => rSetL o i v H Q ∨ rSetD o i v H Q) Z σ H := by
  obtain ⟨S, E, rfl, rfl, ok, w, l⟩ := h
  unfold tAsg gSub
  refine te_fz (te_in ok l w fun p x T e es okT t _ v hv => ?_)
  rw [← es]
  have l1 := l.to t
  have hvF : Dt K T.G v x.2 := by
    obtain ⟨kd, d⟩ := x
    rcases Kd.md_F e.1 with e9 | e9
    · have e9 : kd = .fz := e9
      subst e9; exact hv
    · have e9 : kd = .new .F := e9
      subst e9
      obtain ⟨fp, r, _⟩ := hv
      exact r.F_inv.1
  refine te_in okT l1 e.2 fun p2 r T2 e2 es2 ok2 t2 _ o hr => ?_
  rw [← es2]
  have l2 := l1.to t2
  refine te_in ok2 l2 e2 fun p3 y T3 e3 es3 ok3 t3 c3 i hy => ?_
  rw [← es3]
  have l3 := l2.to t3
  have hr3 := hr.stp ok2 t3 es3 c3 e3.1
  have hv3 : Dt K T3.G v x.2 := (hvF.mono t2.stp.gext).mono t3.stp.gext
  have e4 : subK r y x.2 fun i p d' => E.nx (setAt T3.ρ i p d') := e3.2
  obtain ⟨ky, dy⟩ := y
  unfold subK at e4
  split at e4
  · rename_i j p ds k0 eq
    cases eq
    obtain ⟨jj, ej, e4⟩ := optK_of e4
    obtain ⟨a, xs, rfl, ha, hx, ga, ll⟩ := hr3.lstO ok3
    obtain ⟨U, okU, tU, cU, uσ, uH, uρ, uG⟩ := lst_put ok3 ll (hx.set jj hv3)
    refine .inl ⟨a, xs, k0, jj, rfl, hy.int_inv ok3, ha, by rw [hx.len]; exact ej, ?_⟩
    have z := l3.nx U (by rw [uρ]; exact e4) okU tU
    rw [uσ, uH] at z
    exact z
  · rename_i j p ds d0 _
    obtain ⟨key, ek, sm, e4⟩ := optK_of e4
    obtain ⟨a, xs, rfl, ha, hx, ga, ll⟩ := hr3.dctO ok3
    obtain ⟨U, okU, tU, cU, uσ, uH, uρ, uG⟩ := dct_put ok3 ll (hx.put (k := key) hv3)
    have hyv := (hy.dt ok3).key ek
    subst hyv
    refine .inr ⟨a, _, rfl, .inl ⟨xs, key, ha, rfl, by rw [hx.len]; exact small_lt sm, rfl⟩, ?_⟩
    have z := l3.nx U (by rw [uρ]; exact e4) okU tU
    rw [uσ, uH] at z
    exact z
  · exact e4.elim
theorem PSet.or {r r' : TSet} (h : PSet X r) (h' : PSet X r') : PSet X (fun o i v H Q => r o i v H Q ∨ r' o i v H Q) := fun pins s σ H o i v ov iv u Q I ro ri rv q => by
  rcases q with q | q
  · exact h pins s σ H o i v ov iv u Q I ro ri rv q
  · exact h' pins s σ H o i v ov iv u Q I ro ri rv q
theorem q_sub {o i e : Expr} {wr wi wv : DE (Kd × D)} {p pos : Pos} (hu : X.A.units + 1 < cLine) (ho : PE X o (te X.K W wr)) (hi : PE X i (te X.K W wi)) (he : PE X e (te X.K W wv)) (hs : swapsWithSole [.Subscript o i p] e pos.line X.env = pure false := by rfl) (hw : swappedStores [.Subscript o i p] e X.env = pure none := by rfl)
    (h1 : (assignEach [.Subscript o i p] X.env).map (·.2) = [assign (.Subscript o i p) X.env] := by rfl)
    (hz : ∀ z, assign (.Subscript o i p) X.env z = (do let a ← holding [z] (eval o X.env); let b ← holding [z, a] (eval i X.env); standAt p; holding [z, a, b] (setItem a b z); release [z, a, b] []) := by intro _; rfl) : PS X (.Assign [.Subscript o i p] e pos) (ts X.K W (wSub wv wr wi)) := PS.imp (ps_asg he (pg_sub ho hi (PSet.or set_list (set_dict hu)) hz) hs hw h1) fun _ _ _ h => ts_sub h
end
end VL

namespace VL
open PySem PySem.Spec PyProof.Rows L2
section
variable {K : PySem.W.Frag} {W : WX} {G G' H H' H0 : Hp} {σ : L2.St} {ρ : Rho} {f f' : Own} {pin : Nat → Option V} {X : Cx} {S S0 S1 T T1 T2 U : Sta} {E : En} {Z : Ends}
/-! ### a method of one's own class: the exceptions by the slots -/
def tMethW (C : Addr) (m : Str) (sp : Sp) (dvs : List V) (EX : L2.St → XK) (ta : TE) (t : TA) : TE := fun σ H Q => ta σ H fun x H1 => ∃ a dx fs, x = .ref a ∧ H1 a = some (.ins C dx fs) ∧ fs.lookup m = none ∧ t σ H1 fun vs H2 => sp (x :: (vs ++ dvs)) H2 Q (EX σ)
def tMakeW (C : Addr) (sp : Sp) (dvs : List V) (EX : L2.St → XK) (t : TA) : TE := fun σ H Q => t σ H fun vs H1 => ∀ x dx, H1 x = none → H1 dx = none → dx ≠ x →
  sp (.ref x :: (vs ++ dvs)) (upd (upd H1 dx (.own x)) x (.ins C dx [])) (fun v H2 => v = .non ∧ Q (.ref x) H2) (EX σ)
section
variable {CX : CXT} {k : Nat} {fa C : Addr} {fd : FuncData} {ps : List Str} {sp : Sp} {dvs : List V} {dvl : List Value} {EX : L2.St → XK} {x m : Str} {p pos apos : Pos} {e o : Expr} {es : List Expr} {tr : TE} {t : TA}
theorem pe_methW {pl : Sem Bool} (he : PE X o tr) (c : Cls X.K C) (hm : Meth X.K C m fa) (F : FnOk X.prog X.w X.K X.mg X.base CX k fa fd ps sp) (hr : Room k X.A) (hb : Binds X.K fd ps dvl) (hd : Vals dvs dvl) (hx : ∀ σ, PassesAt CX X σ (EX σ)) (ha : PA X (e :: es) t)
    (hst : starEach (e :: es) X.env = (false, eval e X.env) :: starEach es X.env := by rfl) (hpl : (backTo pos (starEach es X.env)).any (·.1) = false := by rfl)
    (ht : eval (.Call (.Attribute o m apos) (e :: es) [] pos) X.env = (do let u ← eval o X.env; standAt apos.atName; let (g, fi) ← holding [u] (getMethod u m pl); callWith pos g fi (backTo pos (starEach (e :: es) X.env)) (backToKw pos (keywordEach [] X.env))) := by rfl) :
    PE X (.Call (.Attribute o m apos) (e :: es) [] pos) (tMethW C m sp dvs EX tr t) := by
  refine ⟨fun pins s σ H Q I h => ?_⟩
  refine PySem.W.methodCall_KW (pl := pl) (thn (he.run pins s σ H _ I h) fun u s1 ⟨y, H1, I1, rx, a, dx, fs, ex, ea, l, q⟩ => ?_) ht
  subst ex
  obtain rfl : u = Value.ref a := rx
  refine getmeth_ok I1 ea c hm l ?_
  refine PySem.W.callWith_K (first := [.ref a]) (h₀ := X.base) I.ok.mod.kin hm.kp (thn (ha.run pos pins s1 σ H1 _ I1 q) fun us s2 ⟨vs, H2, I2, r, q2⟩ => ⟨I2.kIn, ?_⟩) hst hpl
  exact run_fnSD (us := .ref a :: us) (vs := .ref a :: vs) F hr hb hd (hx σ) I2 (.cons rfl r) q2
theorem pe_methW0 {pl : Sem Bool} (he : PE X o tr) (c : Cls X.K C) (hm : Meth X.K C m fa) (F : FnOk X.prog X.w X.K X.mg X.base CX k fa fd ps sp) (hr : Room k X.A) (hb : Binds X.K fd ps dvl) (hd : Vals dvs dvl) (hx : ∀ σ, PassesAt CX X σ (EX σ))
    (ht : eval (.Call (.Attribute o m apos) [] [] pos) X.env = (do let u ← eval o X.env; standAt apos.atName; let (g, fi) ← holding [u] (getMethod u m pl); callWith pos g fi (backTo pos (starEach [] X.env)) (backToKw pos (keywordEach [] X.env))) := by rfl) :
    PE X (.Call (.Attribute o m apos) [] [] pos) (tMethW C m sp dvs EX tr tNil) := by
  refine ⟨fun pins s σ H Q I h => ?_⟩
  refine PySem.W.methodCall_KW (pl := pl) (thn (he.run pins s σ H _ I h) fun u s1 ⟨y, H1, I1, rx, a, dx, fs, ex, ea, l, q⟩ => ?_) ht
  subst ex
  obtain rfl : u = Value.ref a := rx
  refine getmeth_ok I1 ea c hm l ?_
  exact PySem.W.callWith_K0 (first := [.ref a]) I1.kIn hm.kp (run_fnSD (us := [.ref a]) (vs := [.ref a]) F hr hb hd (hx σ) I1 (.cons rfl .nil) q)
theorem run_makeW {pins : List (Addr × Obj)} {s : Shared} {Q : VK} {us : List Value} {vs : List V} (M : Mk X.K C fa) (F : FnOk X.prog X.w X.K X.mg X.base CX k fa fd ps sp) (hr : Room (k + 1) X.A) (hb : Binds X.K fd ps dvl) (hd : Vals dvs dvl)
    (hx : PassesAt CX X σ (EX σ)) (I : Inv X pins σ H s) (r : Vals vs us) (h : ∀ x dx, H x = none → H dx = none → dx ≠ x → sp (.ref x :: (vs ++ dvs)) (upd (upd H dx (.own x)) x (.ins C dx [])) (fun v H2 => v = .non ∧ Q (.ref x) H2) (EX σ)) :
    wpAny (model X.prog X.w) X.A (call (.ref C) us) (EP X pins σ Q) X.xe s := by
  have hq := h (s.heap.objs.size + 1) s.heap.objs.size (I.hok.fresh (Nat.le_succ _)) (I.hok.fresh (Nat.le_refl _)) (Nat.ne_of_lt (Nat.lt_succ_self _))
  have J := Inv.made (C := C) I
  have rr : Vals (V.ref (s.heap.objs.size + 1) :: (vs ++ dvs)) (Value.ref (s.heap.objs.size + 1) :: (us ++ dvl)) := .cons rfl (r.append hd)
  have hl : (Value.ref (s.heap.objs.size + 1) :: us ++ dvl).length = ps.length := by
    have e := rr.length
    rw [F.len _ _ _ _ hq] at e
    exact e.symm
  refine wpAny_call (make_map (f := fa) I.kIn M.makes M.init (beq_iff_eq.mp M.fn) (codeAny_mono (F.run _ X.stack _ _ ⟨Value.ref (s.heap.objs.size + 1) :: us, []⟩ (Value.ref (s.heap.objs.size + 1) :: (us ++ dvl)) _ _ (EX σ) (hr.make C us []) (J.env0.make C us []) (hb _ (Value.ref (s.heap.objs.size + 1) :: us) J.kIn hl) rr hq) fun w s' hw => ?_))
  cases w with
  | error e => exact hx pins _ _ e s' J hw
  | ok fl =>
    cases fl with
    | ret u =>
      obtain ⟨v, H', I3, rv, ev, q3⟩ := J.after hw
      subst ev
      exact ⟨rv, ⟨V.ref (s.heap.objs.size + 1), H', I3, rfl, q3⟩⟩
    | next => exact False.elim hw
    | brk => exact False.elim hw
    | cont => exact False.elim hw
theorem pe_makeW (M : Mk X.K C fa) (F : FnOk X.prog X.w X.K X.mg X.base CX k fa fd ps sp) (hr : Room (k + 1) X.A) (hg : Gl X x) (hm : X.mg x = some (.ref C)) (hb : Binds X.K fd ps dvl) (hd : Vals dvs dvl) (hx : ∀ σ, PassesAt CX X σ (EX σ))
    (ha : PA X (e :: es) t) (hdb : (x == ("__debug__" : Str)) = false := by decide) (he : starEach (e :: es) X.env = (false, eval e X.env) :: starEach es X.env := by rfl) (hpl : (backTo pos (starEach es X.env)).any (·.1) = false := by rfl) :
    PE X (.Call (.Name x p) (e :: es) [] pos) (tMakeW C sp dvs EX t) := by
  refine ⟨fun pins s σ H Q I h => ?_⟩
  refine wpAny_Call_Name_kw (ld_glob I hg hm ?_ hdb)
  refine PySem.W.callWith_K (h₀ := X.base) I.ok.mod.kin M.kp (thn (ha.run pos pins s σ H _ I h) fun us s1 ⟨vs, H1, I1, r, q⟩ => ⟨I1.kIn, ?_⟩) he hpl
  exact run_makeW M F hr hb hd (hx σ) I1 r q
end
/-- the receiver: an instance of C that has no field m -/
def objOk (C : Addr) (m : Str) (d : D) : Prop := match d with
  | .obj C' fs => C' = C ∧ (fs.map (·.1)).contains m = false
  | _ => False
theorem Has.obj (ok : T.ok K) {x : Kd × D} {v : V} {C : Addr} {m : Str} (h : Has K S0 T x.1 v x.2) (e : objOk C m x.2) : ∃ a dx fs, v = .ref a ∧ T.H a = some (.ins C dx fs) ∧ fs.lookup m = none := by
  obtain ⟨kd, d⟩ := x
  have q := h.dt ok
  cases d with
  | obj C' fs =>
    obtain ⟨rfl, e⟩ := e
    cases q with
    | obj hG n hf => exact ⟨_, _, _, rfl, hG, lookup_out (by rw [hf.names]; simpa using e)⟩
  | _ => exact e.elim
def wMeth (C : Addr) (m : Str) (ms : List Md) (Wf : DF) (dfl : List D) (wr : DE (Kd × D)) (wa : DE (List (Kd × D))) : DE (Kd × D) := fun ρ P => wr ρ ⟨fun p1 x ρ1 => objOk C m x.2 ∧ wa ρ1 ⟨fun p2 xs ρ2 => hold x.1 p2 = true ∧ callK ms Wf (p1 ++ p2) (x :: (xs ++ dfl.map fun d => (.fz, d))) ρ2 P, P.ex⟩, P.ex⟩
theorem te_meth {C : Addr} {m : Str} {ms : List Md} {Wf : DF} {dfl : List D} {dvs : List V} {wr : DE (Kd × D)} {wa : DE (List (Kd × D))} {Q : VK} (hd : ∀ G, DtA K G dvs dfl) (h : te K W (wMeth C m ms Wf dfl wr wa) σ H Q) : tMethW C m (spV K ms ms Wf) dvs (WE W) (te K W wr) (ta K W wa) σ H Q := by
  obtain ⟨S, P, rfl, rfl, ok, w, k, ex⟩ := h
  refine ⟨S, _, rfl, rfl, ok, w, fun p1 x S1 w1 e1 ok1 t1 pr1 v1 h1 => ?_, ex⟩
  obtain ⟨a, dx, fs, rfl, ha, hl⟩ := h1.obj ok1 w1.1
  refine ⟨a, dx, fs, rfl, ha, hl, S1, _, e1, rfl, ok1, w1.2, fun p2 xs S2 w2 e2 ok2 t2 pr2 vs h2 => ?_, fun C fl T e es okT tT dd hd => ex C fl T e es okT (t1.trans tT) dd hd⟩
  have hx : Has K S S2 x.1 (.ref a) x.2 := h1.stp ok1 t2 (e2.trans e1.symm) pr2 w2.1
  have hd' : HasA K S S2 dvs (dfl.map fun d => (Kd.fz, d)) := HasA.of_fz (hd S2.G)
  have t12 := t1.trans t2
  refine run_call (S0 := S) ok2 (.cons hx ((h2.from t1).append hd')) w2.2 (fun q y U e eq es okU tU pr v hv => ?_) (fun C fl U e es okU tU dd hdd => ?_)
  · exact k _ _ U e (es.trans e2) okU (t12.trans tU) (eq ▸ (pr1.trans pr2).trans pr) v (hv.from t12)
  · exact ex C fl U e (es.trans e2) okU (t12.trans tU) dd hdd
/-- C(..) -/
def headK (d' : List D) (q : D → Prop) : Prop := match d' with
  | d :: _ => q d
  | [] => False
def wMake (C : Addr) (n : Nat) (fm : List Md) (Wf : DF) (dfl : List D) (wa : DE (List (Kd × D))) : DE (Kd × D) := fun ρ P => wa ρ ⟨fun p xs ρ1 => (allFz xs = true ∧ xs.length + dfl.length = n) ∧ Wf (.obj C [] :: (xs.map (·.2) ++ dfl)) ⟨fun z ds' => isN z.2 = true ∧ headK ds' fun d => P.ok p (.new (.O fm), d) ρ1, fun C fl _ => P.ex C fl ρ1⟩, P.ex⟩
def mkMs (fm : List Md) (n : Nat) : List Md := .P (.O fm) :: List.replicate n .F
theorem make_state {C : Addr} {fm : List Md} {n : Nat} {Wf : DF} {ds : List D} {vs : List V} {x dx : Addr} {P : Pf} {Q : VK} {EX : XK} (ok : T.ok K) (hv : DtA K T.G vs ds) (hn : ds.length = n) (hx : T.H x = none) (hdx : T.H dx = none) (ne : dx ≠ x) (w : Wf (.obj C [] :: ds) P)
    (k : ∀ z ds' (d : D) (U : Sta), P.ok z ds' → ds'.head? = some d → U.σ = T.σ → U.ρ = T.ρ → U.ok K → T.to U → Tch [] T U → Has K T U (.new (.O fm)) (.ref x) d → isN z.2 = true → Q (.ref x) U.H)
    (kn : ∀ z ds', P.ok z ds' → isN z.2 = true)
    (ex : ∀ C fl ds' (U : Sta), P.ex C fl ds' → U.σ = T.σ → U.ρ = T.ρ → U.ok K → T.to U → ∀ dd : Option Addr, XD K U.G U.H dd fl → EX (.ref C) dd U.H) :
    spV K (mkMs [] n) (mkMs fm n) Wf (.ref x :: vs) (upd (upd T.H dx (.own x)) x (.ins C dx [])) (fun v H2 => v = .non ∧ Q (.ref x) H2) EX := by
  have hx1 : upd T.H dx (.own x) x = none := by rw [upd_ne (Ne.symm ne)]; exact hx
  have e1 : Ex T.H (upd T.H dx (.own x)) := Ex.new hdx
  have e2 : Ex T.H (upd (upd T.H dx (.own x)) x (.ins C dx [])) := e1.trans (Ex.new hx1)
  have gx : T.G x = none := ok.ext.free hx
  have nx : ¬ Ow T.f x := fun z => ok.own z hx
  have get : ∀ {fm' : List Md} {d0 : D} {ds1 : List D} (i : Nat) (m : Md) (d : D), (zr (mkMs fm' n) (d0 :: ds1))[i]? = some (some (m, d)) → (i = 0 ∧ m = .P (.O fm') ∧ d = d0) ∨ ∃ j, i = j + 1 ∧ m = .F ∧ ds1[j]? = some d := fun {fm' d0 ds1} i m d e => by
    obtain ⟨q1, q2⟩ := zr_get.mp e
    cases i with
    | zero =>
      simp [mkMs] at q1 q2
      exact .inl ⟨rfl, q1.symm, q2.symm⟩
    | succ j =>
      have q1 : (List.replicate n Md.F)[j]? = some m := by simpa [mkMs] using q1
      rw [List.getElem?_replicate] at q1
      split at q1
      · cases q1; exact .inr ⟨j, rfl, rfl, by simpa using q2⟩
      · cases q1
  have okA : Sx K (fun i => (V.ref x :: vs)[i]?) T.G (upd (upd T.H dx (.own x)) x (.ins C dx [])) ((V.ref x :: vs).map some) (zr (mkMs [] n) (.obj C [] :: ds)) (fun i => if i = 0 then [x] else []) := {
    ext := ok.ext.trans e2
    len := by
      rw [zr_len (by simp [mkMs, hn])]
      simp [mkMs, hv.len, hn]
    slot := fun i m d e => by
      rcases get i m d e with ⟨rfl, rfl, rfl⟩ | ⟨j, rfl, rfl, q⟩
      · exact ⟨.ref x, rfl, .P (.O upd_same List.nodup_nil .nil)⟩
      · obtain ⟨v, h1, h2⟩ := hv.get q
        exact ⟨v, by simp [h1], .F h2⟩
    emp := fun i e => by
      cases i with
      | zero => exact absurd rfl (e _ _)
      | succ j => rfl
    nd := fun i => by
      by_cases c : i = 0
      · simp [c]
      · simp [c]
    dj := fun i j a h h' => by
      by_cases c : i = 0
      · by_cases c' : j = 0
        · rw [c, c']
        · simp [c'] at h'
      · simp [c] at h
    out := fun i a h => by
      by_cases c : i = 0
      · simp [c] at h; rw [h]; exact gx
      · simp [c] at h
    pins := fun i m d e => by
      rcases get i _ d e with ⟨rfl, _, rfl⟩ | ⟨j, rfl, q, _⟩
      · exact ⟨.ref x, rfl, rfl⟩
      · cases q }
  have back : ∀ {ds' : List D} (B : Sta), ds'.length = (mkMs fm n).length → B.σ = (V.ref x :: vs).map some → B.ρ = zr (mkMs fm n) ds' → B.ok K → Sta.to ⟨fun i => (V.ref x :: vs)[i]?, T.G, upd (upd T.H dx (.own x)) x (.ins C dx []), (V.ref x :: vs).map some, zr (mkMs [] n) (.obj C [] :: ds), fun i => if i = 0 then [x] else []⟩ B →
      ∃ d, ds'.head? = some d ∧ Sta.ok K ⟨T.pin, B.G, B.H, T.σ, T.ρ, T.f⟩ ∧ T.to ⟨T.pin, B.G, B.H, T.σ, T.ρ, T.f⟩ ∧ Tch [] T ⟨T.pin, B.G, B.H, T.σ, T.ρ, T.f⟩ ∧ Has K T ⟨T.pin, B.G, B.H, T.σ, T.ρ, T.f⟩ (.new (.O fm)) (.ref x) d := fun {ds'} B hl bσ bρ okB tB => by
    have nA : ∀ a, T.H a ≠ none → ¬ Ow (fun i => if i = 0 then [x] else []) a := fun a ha ⟨i, hi⟩ => by
      by_cases c : i = 0
      · simp [c] at hi; exact ha (hi ▸ hx)
      · simp [c] at hi
    have keep : ∀ a o, T.H a = some o → B.H a = some o := fun a o ho => tB.stp.keep a o (e2 a o ho) (nA a (by rw [ho]; exact fun z => nomatch z))
    have gold : ∀ a, T.H a ≠ none → B.G a = T.G a := fun a ha => tB.stp.gold a (e2.trk ha) (nA a ha)
    cases ds' with
    | nil => simp [mkMs] at hl
    | cons d ds' =>
      have r0 : B.ρ[0]? = some (some (.P (.O fm), d)) := by rw [bρ]; rfl
      obtain ⟨v, h1, r⟩ := okB.slot 0 _ _ r0
      rw [bσ] at h1
      cases h1
      have r' := r.strip
      refine ⟨d, rfl, ?_, ⟨⟨tB.stp.gext, fun a o ho _ => keep a o ho, fun a ha _ => gold a ha, fun a h => .inl h, fun a ha => ?_⟩, rfl⟩, fun i _ => ⟨rfl, rfl, fun a _ o ho => keep a o ho⟩, B.f 0, r', okB.nd 0, fun a ha => ⟨okB.out 0 a ha, ?_⟩⟩
      · exact {
          ext := okB.ext
          len := ok.len
          slot := fun i m d e => by
            obtain ⟨v, q1, q2⟩ := ok.slot i m d e
            exact ⟨v, q1, q2.keep tB.stp.gext fun a _ o ho => keep a o ho⟩
          emp := ok.emp
          nd := ok.nd
          dj := ok.dj
          out := fun i a h => by
            show B.G a = none
            rw [gold a (ok.own ⟨i, h⟩)]
            exact ok.out i a h
          pins := ok.pins }
      · cases e : T.H a with
        | none => exact absurd e ha
        | some o => rw [show B.H a = some o from keep a o e]; exact fun z => nomatch z
      · have na : T.H a = none := by
          rcases tB.stp.fnew a ⟨0, ha⟩ with ⟨i, hi⟩ | z
          · by_cases c : i = 0
            · simp [c] at hi; rw [hi]; exact hx
            · simp [c] at hi
          · have z : upd (upd T.H dx (.own x)) x (.ins C dx []) a = none := z
            cases e : T.H a with
            | none => rfl
            | some o => rw [e2 a o e] at z; cases z
        exact ⟨fun z => ok.own z na, .inr na⟩
  refine ⟨⟨fun i => (V.ref x :: vs)[i]?, T.G, upd (upd T.H dx (.own x)) x (.ins C dx []), (V.ref x :: vs).map some, zr (mkMs [] n) (.obj C [] :: ds), fun i => if i = 0 then [x] else []⟩, .obj C [] :: ds, P, rfl, rfl, rfl, by simp [mkMs, hv.len, hn], by simp [mkMs, hn], rfl, okA, w, fun z ds' B qz hl bσ bρ okB tB _ v hz => ?_, fun C fl ds' B qz hl bσ bρ okB tB dd hd => ?_⟩
  · obtain ⟨d, e1, okU, tU, cU, hU⟩ := back B hl bσ bρ okB tB
    refine ⟨(hz.dt okB).non_of (kn z ds' qz), k z ds' d ⟨T.pin, B.G, B.H, T.σ, T.ρ, T.f⟩ qz e1 rfl rfl okU tU cU hU (kn z ds' qz)⟩
  · obtain ⟨d, e1, okU, tU, cU, hU⟩ := back B hl bσ bρ okB tB
    exact ex C fl ds' ⟨T.pin, B.G, B.H, T.σ, T.ρ, T.f⟩ qz rfl rfl okU tU dd hd
theorem te_make {C : Addr} {n : Nat} {fm : List Md} {Wf : DF} {dfl : List D} {dvs : List V} {wa : DE (List (Kd × D))} {Q : VK} (hd : ∀ G, DtA K G dvs dfl) (h : te K W (wMake C n fm Wf dfl wa) σ H Q) : tMakeW C (spV K (mkMs [] n) (mkMs fm n) Wf) dvs (WE W) (ta K W wa) σ H Q := by
  obtain ⟨S, P, rfl, rfl, ok, w, k, ex⟩ := h
  refine ⟨S, _, rfl, rfl, ok, w, fun p xs T w1 e1 ok1 t1 pr1 vs h1 x dx hx hdx ne => ?_, ex⟩
  obtain ⟨⟨fz, hl⟩, w1⟩ := w1
  refine make_state ok1 ((h1.fzs fz).append (hd T.G)) (by simpa using hl) hx hdx ne w1 (fun z ds' d U q e eσ eρ okU tU cU hU hz => ?_) (fun z ds' q => q.1) (fun C fl ds' U q eσ eρ okU tU dd hdd => ?_)
  · have q2 := q.2
    cases ds' with
    | nil => exact q2.elim
    | cons d0 ds' =>
      cases e
      exact k _ _ U (by rw [eρ]; exact q2) (eσ.trans e1) okU (t1.trans tU) (pr1.add cU) _ (hU.from t1)
  · exact ex C fl U (by rw [eρ]; exact q) (eσ.trans e1) okU (t1.trans tU) dd hdd
section
variable {k : Nat} {fa C : Addr} {fd : FuncData} {ps : List Str} {ms : List Md} {Wf : DF} {x m : Str} {p pos apos : Pos} {o e : Expr} {es : List Expr} {wr : DE (Kd × D)} {wa : DE (List (Kd × D))} {n : Nat} {fm : List Md}
theorem q_meth {pl : Sem Bool} (he : PE X o (te X.K W wr)) (c : Cls X.K C) (hm : Meth X.K C m fa) (F : FnOk X.prog X.w X.K X.mg X.base (L2.CX X.prog X.w) k fa fd ps (spV X.K ms ms Wf)) (hr : Room k X.A) (hb : Binds X.K fd ps []) (tk : Takes X W) (ha : PA X (e :: es) (ta X.K W wa))
    (hst : starEach (e :: es) X.env = (false, eval e X.env) :: starEach es X.env := by rfl) (hpl : (backTo pos (starEach es X.env)).any (·.1) = false := by rfl)
    (ht : eval (.Call (.Attribute o m apos) (e :: es) [] pos) X.env = (do let u ← eval o X.env; standAt apos.atName; let (g, fi) ← holding [u] (getMethod u m pl); callWith pos g fi (backTo pos (starEach (e :: es) X.env)) (backToKw pos (keywordEach [] X.env))) := by rfl) :
    PE X (.Call (.Attribute o m apos) (e :: es) [] pos) (te X.K W (wMeth C m ms Wf [] wr wa)) := PE.imp (pe_methW he c hm F hr hb .nil (fun σ => passAt tk σ) ha hst hpl ht) fun _ _ _ h => te_meth (fun _ => .nil) h
theorem te_meth0 {sp : Sp} {EX : L2.St → XK} {tr : TE} {Q : VK} (h : tMethW C m sp [] EX tr (ta K W wNil) σ H Q) (himp : ∀ {σ H} {Q Q' : VK}, tr σ H Q → (∀ x H1, Q x H1 → Q' x H1) → tr σ H Q') : tMethW C m sp [] EX tr tNil σ H Q :=
  himp h fun x H1 ⟨a, dx, fs, e1, e2, e3, q⟩ => ⟨a, dx, fs, e1, e2, e3, ta_nil q⟩
theorem te_mono {w : DE (Kd × D)} {Q Q' : VK} (h : te K W w σ H Q) (k : ∀ x H1, Q x H1 → Q' x H1) : te K W w σ H Q' := by
  obtain ⟨S, P, a, b, ok, w, q, ex⟩ := h
  exact ⟨S, P, a, b, ok, w, fun p x T h1 h2 h3 h4 h5 v h6 => k _ _ (q p x T h1 h2 h3 h4 h5 v h6), ex⟩
theorem q_meth0 {pl : Sem Bool} (he : PE X o (te X.K W wr)) (c : Cls X.K C) (hm : Meth X.K C m fa) (F : FnOk X.prog X.w X.K X.mg X.base (L2.CX X.prog X.w) k fa fd ps (spV X.K ms ms Wf)) (hr : Room k X.A) (hb : Binds X.K fd ps []) (tk : Takes X W)
    (ht : eval (.Call (.Attribute o m apos) [] [] pos) X.env = (do let u ← eval o X.env; standAt apos.atName; let (g, fi) ← holding [u] (getMethod u m pl); callWith pos g fi (backTo pos (starEach [] X.env)) (backToKw pos (keywordEach [] X.env))) := by rfl) :
    PE X (.Call (.Attribute o m apos) [] [] pos) (te X.K W (wMeth C m ms Wf [] wr wNil)) := PE.imp (pe_methW0 he c hm F hr hb .nil (fun σ => passAt tk σ) ht) fun _ _ _ h => te_meth0 (te_meth (fun _ => .nil) h) te_mono
theorem q_make (M : Mk X.K C fa) (F : FnOk X.prog X.w X.K X.mg X.base (L2.CX X.prog X.w) k fa fd ps (spV X.K (mkMs [] n) (mkMs fm n) Wf)) (hr : Room (k + 1) X.A) (hm : X.mg x = some (.ref C)) (hb : Binds X.K fd ps []) (tk : Takes X W)
    (ha : PA X (e :: es) (ta X.K W wa)) (hg : Gl X x := by rfl) (hdb : (x == ("__debug__" : Str)) = false := by decide) (he : starEach (e :: es) X.env = (false, eval e X.env) :: starEach es X.env := by rfl) (hpl : (backTo pos (starEach es X.env)).any (·.1) = false := by rfl) :
    PE X (.Call (.Name x p) (e :: es) [] pos) (te X.K W (wMake C n fm Wf [] wa)) := PE.imp (pe_makeW M F hr hg hm hb .nil (fun σ => passAt tk σ) ha hdb he hpl) fun _ _ _ h => te_make (fun _ => .nil) h
end
/-! ### a module's constants -/
end
end VL

namespace VL
open PySem PySem.Spec PyProof.Rows L2
/-! ### the readings, run by simp from the head -/
section
variable {ρ : Rho} {P : Po (Kd × D)} {PB : Po Bool} {PA' : Po (List (Kd × D))} {PL : Po (List D)} {PO' : Po (Option Int)} {E : En}
def slotK (ρ : Rho) (i : Nat) (q : Md → D → Prop) : Prop := match ρ[i]? with
  | some (some (m, d)) => q m d
  | _ => False
@[simp ↓] theorem slotK_0 {m : Md} {d : D} {q : Md → D → Prop} : slotK (some (m, d) :: ρ) 0 q = q m d := rfl
@[simp ↓] theorem slotK_n {q : Md → D → Prop} : slotK (none :: ρ) 0 q = False := rfl
@[simp ↓] theorem slotK_s {x : Option (Md × D)} {i : Nat} {q : Md → D → Prop} : slotK (x :: ρ) (i + 1) q = slotK ρ i q := by simp [slotK]
def stK (i : Nat) (md : Md × D) (ρ : Rho) (q : Rho → Prop) : Prop := okSlot ρ i = true ∧ q (ρ.set i (some md))
@[simp ↓] theorem stK_n {md : Md × D} {q : Rho → Prop} : stK 0 md (none :: ρ) q = q (some md :: ρ) := by simp [stK, okSlot]
@[simp ↓] theorem stK_F {d : D} {md : Md × D} {q : Rho → Prop} : stK 0 md (some (.F, d) :: ρ) q = q (some md :: ρ) := by simp [stK, okSlot]
@[simp ↓] theorem stK_L {m : Md} {d : D} {md : Md × D} {q : Rho → Prop} : stK 0 md (some (.L m, d) :: ρ) q = q (some md :: ρ) := by simp [stK, okSlot]
@[simp ↓] theorem stK_K {d : D} {md : Md × D} {q : Rho → Prop} : stK 0 md (some (.K, d) :: ρ) q = q (some md :: ρ) := by simp [stK, okSlot]
@[simp ↓] theorem stK_O {ms : List Md} {d : D} {md : Md × D} {q : Rho → Prop} : stK 0 md (some (.O ms, d) :: ρ) q = q (some md :: ρ) := by simp [stK, okSlot]
@[simp ↓] theorem stK_s {x : Option (Md × D)} {i : Nat} {md : Md × D} {q : Rho → Prop} : stK (i + 1) md (x :: ρ) q = stK i md ρ (fun ρ' => q (x :: ρ')) := by simp [stK, okSlot]
def ifK (b : Bool) (A B : Prop) : Prop := if b = true then A else B
@[simp ↓] theorem ifK_t {A B : Prop} : ifK true A B = A := rfl
@[simp ↓] theorem ifK_f {A B : Prop} : ifK false A B = B := rfl
@[simp ↓] theorem ifK_d {p : Prop} [Decidable p] {A B : Prop} : ifK (decide p) A B = if p then A else B := by simp [ifK]
@[simp ↓] theorem ifK_not {b : Bool} {A B : Prop} : ifK (!b) A B = ifK b B A := by cases b <;> rfl
@[simp ↓] theorem ifK_isN {d : D} {A B : Prop} : ifK (isN d) A B = if isN d = true then A else B := rfl
def blK (d : D) (q : Bool → Prop) : Prop := match d with
  | .bl b => q b
  | _ => False
@[simp ↓] theorem blK_b {b : Bool} {q : Bool → Prop} : blK (.bl b) q = q b := rfl
@[simp ↓] theorem optK_s {α : Type} {a : α} {q : α → Prop} : optK (some a) q = q a := rfl
@[simp ↓] theorem optK_n {α : Type} {q : α → Prop} : optK (none : Option α) q = False := rfl
@[simp ↓] theorem intK_i {i j : Int} {q : Int → Int → Prop} : intK (.int i) (.int j) q = q i j := rfl
/-! expressions -/
@[simp ↓] theorem wVar_eq {i : Nat} : wVar i ρ P = slotK ρ i fun m d => P.ok [] (kAt i [] m.st, d) ρ := by
  unfold wVar slotK
  cases ρ[i]? with
  | none => rfl
  | some x => cases x <;> rfl
theorem okSlot_of : ∀ {ρ : Rho} {i : Nat} {m : Md} {d : D}, ρ[i]? = some (some (m, d)) → notP m = true → okSlot ρ i = true
  | [], _, _, _, e, _ => by simp at e
  | x :: _, 0, m, d, e, h => by
    simp at e
    subst e
    cases m <;> first | rfl | cases h
  | _ :: ρ, i + 1, m, d, e, h => okSlot_of (ρ := ρ) (by simpa using e) h
@[simp ↓] theorem wFrz_eq {i : Nat} : wFrz i ρ P = slotK ρ i fun m d => notP m = true ∧ stK i (.F, d) ρ fun ρ' => P.ok [i] (.fz, d) ρ' := by
  unfold wFrz slotK
  cases e : ρ[i]? with
  | none => rfl
  | some x =>
    cases x with
    | none => rfl
    | some md =>
      obtain ⟨m, d⟩ := md
      exact propext ⟨fun h => ⟨h.1, okSlot_of e h.1, h.2⟩, fun h => ⟨h.1, h.2.2⟩⟩
@[simp ↓] theorem wMov_eq {i : Nat} : wMov i ρ P = slotK ρ i fun m d => notP m = true ∧ P.ok [i] (.new m, d) (ρ.set i none) := by
  unfold wMov slotK
  cases ρ[i]? with
  | none => rfl
  | some x => cases x <;> rfl
@[simp ↓] theorem wC_eq {d : D} : wC d ρ P = P.ok [] (.fz, d) ρ := rfl
@[simp ↓] theorem wOp_eq {o : O2} {a b : DE (Kd × D)} : wOp o a b ρ P = a ρ ⟨fun p1 x ρ1 => b ρ1 ⟨fun p2 y ρ2 => hold x.1 p2 = true ∧ o x y fun z => P.ok (p1 ++ p2) z ρ2, P.ex⟩, P.ex⟩ := rfl
@[simp ↓] theorem wUn_eq {o : O1} {a : DE (Kd × D)} : wUn o a ρ P = a ρ ⟨fun p1 x ρ1 => o x fun z => P.ok p1 z ρ1, P.ex⟩ := rfl
@[simp ↓] theorem wCB_eq {o : OL} {a : DE (List (Kd × D))} : wCB o a ρ P = a ρ ⟨fun p1 x ρ1 => o x fun z => P.ok p1 z ρ1, P.ex⟩ := rfl
@[simp ↓] theorem wFz_eq {w : DE (Kd × D)} : wFz w ρ P = w ρ ⟨fun p x ρ' => P.ok p (x.1.frz, x.2) ρ', P.ex⟩ := rfl
@[simp ↓] theorem wNil_eq : wNil ρ PA' = PA'.ok [] [] ρ := rfl
@[simp ↓] theorem wCons_eq {a : DE (Kd × D)} {r : DE (List (Kd × D))} : wCons a r ρ PA' = a ρ ⟨fun p1 x ρ1 => r ρ1 ⟨fun p2 xs ρ2 => hold x.1.frz p2 = true ∧ PA'.ok (p1 ++ p2) ((x.1.frz, x.2) :: xs) ρ2, PA'.ex⟩, PA'.ex⟩ := rfl
@[simp ↓] theorem wTup_eq {a : DE (List (Kd × D))} : wTup a ρ P = a ρ ⟨fun p xs ρ' => (allFz xs = true ∧ small xs.length = true) ∧ P.ok p (.fz, .tup (xs.map (·.2))) ρ', P.ex⟩ := rfl
@[simp ↓] theorem wLst_eq {a : DE (List (Kd × D))} : wLst a ρ P = a ρ ⟨fun p xs ρ' => (allFz xs = true ∧ small xs.length = true) ∧ P.ok p (.new (.L .F), .lst (xs.map (·.2))) ρ', P.ex⟩ := rfl
@[simp ↓] theorem wDic_eq : wDic ρ P = P.ok [] (.new .K, .dct []) ρ := rfl
@[simp ↓] theorem wT_eq {w : DE (Kd × D)} : wT w ρ PB = w ρ ⟨fun p x ρ' => blK x.2 fun b => PB.ok p b ρ', PB.ex⟩ := by
  unfold wT
  congr 2
@[simp ↓] theorem wAnd_eq {a b : DE Bool} : wAnd a b ρ PB = a ρ ⟨fun p1 c ρ1 => ifK c (b ρ1 ⟨fun p2 c2 ρ2 => PB.ok (p1 ++ p2) c2 ρ2, PB.ex⟩) (PB.ok p1 false ρ1), PB.ex⟩ := by
  unfold wAnd
  congr 2
  funext p c ρ'
  cases c <;> rfl
@[simp ↓] theorem wOr_eq {a b : DE Bool} : wOr a b ρ PB = a ρ ⟨fun p1 c ρ1 => ifK c (PB.ok p1 true ρ1) (b ρ1 ⟨fun p2 c2 ρ2 => PB.ok (p1 ++ p2) c2 ρ2, PB.ex⟩), PB.ex⟩ := by
  unfold wOr
  congr 2
  funext p c ρ'
  cases c <;> rfl
@[simp ↓] theorem wNot_eq {a : DE Bool} : wNot a ρ PB = a ρ ⟨fun p1 c ρ1 => PB.ok p1 (!c) ρ1, PB.ex⟩ := rfl
@[simp ↓] theorem wAndV_eq {a b : DE (Kd × D)} : wAndV a b ρ P = a ρ ⟨fun p1 x ρ1 => blK x.2 fun c => ifK c (b ρ1 ⟨fun p2 c2 ρ2 => P.ok (p1 ++ p2) c2 ρ2, P.ex⟩) (P.ok p1 (.fz, .bl false) ρ1), P.ex⟩ := by
  unfold wAndV
  congr 2
  funext p x ρ'
  obtain ⟨k, d⟩ := x
  cases d with
  | bl b => cases b <;> rfl
  | _ => rfl
@[simp ↓] theorem wOrV_eq {a b : DE (Kd × D)} : wOrV a b ρ P = a ρ ⟨fun p1 x ρ1 => blK x.2 fun c => ifK c (P.ok p1 (.fz, .bl true) ρ1) (b ρ1 ⟨fun p2 c2 ρ2 => P.ok (p1 ++ p2) c2 ρ2, P.ex⟩), P.ex⟩ := by
  unfold wOrV
  congr 2
  funext p x ρ'
  obtain ⟨k, d⟩ := x
  cases d with
  | bl b => cases b <;> rfl
  | _ => rfl
@[simp ↓] theorem wNotV_eq {a : DE (Kd × D)} : wNotV a ρ P = a ρ ⟨fun p1 x ρ1 => blK x.2 fun c => P.ok p1 (.fz, .bl (!c)) ρ1, P.ex⟩ := by
  unfold wNotV
  congr 2
@[simp ↓] theorem wIf_eq {t : DE Bool} {a b : DE (Kd × D)} : wIf t a b ρ P = t ρ ⟨fun p1 c ρ1 => ifK c (a ρ1 ⟨fun p2 x ρ2 => P.ok (p1 ++ p2) x ρ2, P.ex⟩) (b ρ1 ⟨fun p2 x ρ2 => P.ok (p1 ++ p2) x ρ2, P.ex⟩), P.ex⟩ := by
  unfold wIf
  congr 2
  funext p c ρ'
  cases c <;> rfl
@[simp ↓] theorem wChain_eq {o o' : O2} {a b c : DE (Kd × D)} : wChain o o' a b c ρ P = a ρ ⟨fun p1 x ρ1 => b ρ1 ⟨fun p2 y ρ2 => hold x.1 p2 = true ∧ o x y fun z => blK z.2 fun t => ifK t (c ρ2 ⟨fun p3 u ρ3 => hold y.1 p3 = true ∧ o' y u fun z => P.ok (p1 ++ p2 ++ p3) z ρ3, P.ex⟩) (P.ok (p1 ++ p2) (.fz, .bl false) ρ2), P.ex⟩, P.ex⟩ := by
  unfold wChain
  congr 2
  funext p x ρ'
  congr 2
  funext p' y ρ''
  congr 2
  funext z
  obtain ⟨k, d⟩ := z
  cases d with
  | bl b => cases b <;> rfl
  | _ => rfl
@[simp ↓] theorem wYes_eq : wYes ρ PB = PB.ok [] true ρ := rfl
/-! statements -/
@[simp ↓] theorem wNext_eq : wNext E ρ = E.nx ρ := rfl
@[simp ↓] theorem wSeq_eq {a b : DS} : wSeq a b E ρ = a { E with nx := b E } ρ := rfl
@[simp ↓] theorem wBreak_eq : wBreak E ρ = E.bk ρ := rfl
@[simp ↓] theorem wCont_eq : wCont E ρ = E.ct ρ := rfl
@[simp ↓] theorem wDrop_eq {we : DE (Kd × D)} : wDrop we E ρ = we ρ ⟨fun _ _ ρ' => E.nx ρ', E.ex⟩ := rfl
@[simp ↓] theorem wRet_eq {we : DE (Kd × D)} : wRet we E ρ = we ρ ⟨fun _ x ρ' => E.rt x ρ', E.ex⟩ := rfl
@[simp ↓] theorem wRetN_eq : wRetN E ρ = E.rt (.fz, .non) ρ := rfl
@[simp ↓] theorem wIfS_eq {c : DE Bool} {a b : DS} : wIfS c a b E ρ = c ρ ⟨fun _ k ρ' => ifK k (a E ρ') (b E ρ'), E.ex⟩ := by
  unfold wIfS
  congr 2
  funext p k ρ'
  cases k <;> rfl
@[simp ↓] theorem wNever_eq : wNever E ρ = False := rfl
def storeK (i : Nat) (x : Kd × D) (ρ : Rho) (q : Rho → Prop) : Prop := match x.1 with
  | .fz => stK i (.F, x.2) ρ q
  | .new m => notP m = true ∧ stK i (m, x.2) ρ q
  | .bor _ _ _ => False
@[simp ↓] theorem storeK_fz {i : Nat} {d : D} {q : Rho → Prop} : storeK i (.fz, d) ρ q = stK i (.F, d) ρ q := rfl
@[simp ↓] theorem storeK_L {i : Nat} {m : Md} {d : D} {q : Rho → Prop} : storeK i (.new (.L m), d) ρ q = stK i (.L m, d) ρ q := by simp [storeK, notP]
@[simp ↓] theorem storeK_K {i : Nat} {d : D} {q : Rho → Prop} : storeK i (.new .K, d) ρ q = stK i (.K, d) ρ q := by simp [storeK, notP]
@[simp ↓] theorem storeK_O {i : Nat} {ms : List Md} {d : D} {q : Rho → Prop} : storeK i (.new (.O ms), d) ρ q = stK i (.O ms, d) ρ q := by simp [storeK, notP]
@[simp ↓] theorem storeK_F {i : Nat} {d : D} {q : Rho → Prop} : storeK i (.new .F, d) ρ q = stK i (.F, d) ρ q := by simp [storeK, notP]
@[simp ↓] theorem wSet_eq {i : Nat} {we : DE (Kd × D)} : wSet i we E ρ = we ρ ⟨fun _ x ρ' => storeK i x ρ' E.nx, E.ex⟩ := by
  unfold wSet
  congr 2
  funext p x ρ'
  obtain ⟨k, d⟩ := x
  cases k with
  | fz => rfl
  | bor j q m => simp [putK, storeK]
  | new m => simp only [putK, storeK, stK, eq_iff_iff]; exact ⟨fun ⟨a, b, c⟩ => ⟨b, a, c⟩, fun ⟨b, a, c⟩ => ⟨a, b, c⟩⟩
@[simp ↓] theorem wAug_eq {i : Nat} {o : O2} {we : DE (Kd × D)} : wAug i o we E ρ = wSet i (wOp o (wVar i) we) E ρ := rfl
@[simp ↓] theorem wgN_eq {i : Nat} {d : D} {q : Rho → Prop} : wgN i d ρ q = stK i (.F, d) ρ q := rfl
@[simp ↓] theorem wgNil_eq {q : Rho → Prop} : wgNil [] ρ q = q ρ := rfl
@[simp ↓] theorem wgCons_eq {a : DG} {b : DGs} {d : D} {ds : List D} {q : Rho → Prop} : wgCons a b (d :: ds) ρ q = a d ρ fun ρ' => b ds ρ' q := rfl
@[simp ↓] theorem wgTup_eq {n : Nat} {a : DGs} {ds : List D} {q : Rho → Prop} : wgTup n a (.tup ds) ρ q = (ds.length = n ∧ a ds ρ q) := rfl
def fzK (x : Kd × D) (q : D → Prop) : Prop := match x.1 with
  | .fz => q x.2
  | _ => False
@[simp ↓] theorem fzK_f {d : D} {q : D → Prop} : fzK (.fz, d) q = q d := rfl
@[simp ↓] theorem wAsg_eq {we : DE (Kd × D)} {g : DG} : wAsg we g E ρ = we ρ ⟨fun _ x ρ' => fzK (x.1.frz, x.2) fun d => g d ρ' E.nx, E.ex⟩ := by
  unfold wAsg
  rw [wFz_eq]
  congr 2
@[simp ↓] theorem frz_f : Kd.frz .fz = .fz := rfl
@[simp ↓] theorem frz_n {m : Md} : Kd.frz (.new m) = .fz := rfl
@[simp ↓] theorem frz_b {i : Nat} {p : List Nat} {m : Md} : Kd.frz (.bor i p m) = .bor i p m := rfl
@[simp ↓] theorem kAt_F {i : Nat} {p : List Nat} : kAt i p .F = .fz := rfl
@[simp ↓] theorem kAt_L {i : Nat} {p : List Nat} {m : Md} : kAt i p (.L m) = .bor i p (.L m) := rfl
@[simp ↓] theorem kAt_K {i : Nat} {p : List Nat} : kAt i p .K = .bor i p .K := rfl
@[simp ↓] theorem kAt_O {i : Nat} {p : List Nat} {ms : List Md} : kAt i p (.O ms) = .bor i p (.O ms) := rfl
@[simp ↓] theorem st_P {m : Md} : Md.st (.P m) = m.st := rfl
@[simp ↓] theorem st_F : Md.st .F = .F := rfl
@[simp ↓] theorem st_L {m : Md} : Md.st (.L m) = .L m := rfl
@[simp ↓] theorem st_K : Md.st .K = .K := rfl
@[simp ↓] theorem st_O {ms : List Md} : Md.st (.O ms) = .O ms := rfl
@[simp ↓] theorem notP_F : notP .F = true := rfl
@[simp ↓] theorem notP_L {m : Md} : notP (.L m) = true := rfl
@[simp ↓] theorem notP_K : notP .K = true := rfl
@[simp ↓] theorem notP_O {ms : List Md} : notP (.O ms) = true := rfl
@[simp ↓] theorem hold_f {p : List Nat} : hold .fz p = true := rfl
@[simp ↓] theorem hold_n {m : Md} {p : List Nat} : hold (.new m) p = true := rfl
@[simp ↓] theorem hold_b {i : Nat} {q p : List Nat} {m : Md} : (hold (.bor i q m) p = true) = (p.contains i = false) := by simp [hold]
@[simp ↓] theorem allFz_nil : allFz [] = true := rfl
@[simp ↓] theorem allFz_c {d : D} {r : List (Kd × D)} : allFz ((.fz, d) :: r) = allFz r := rfl
@[simp ↓] theorem retK_f : retK .fz = true := rfl
@[simp ↓] theorem retK_n {m : Md} : retK (.new m) = true := rfl
/-! the end of a def -/
@[simp ↓] theorem ends_nx {ms : List Md} {ds : List D} {F : Pf} {ρ : Rho} : (endsOf ms ds F).nx ρ = finK ms ds ρ fun ds' => F.ok (.fz, .non) ds' := rfl
@[simp ↓] theorem ends_rt {ms : List Md} {ds : List D} {F : Pf} {x : Kd × D} {ρ : Rho} : (endsOf ms ds F).rt x ρ = (retK x.1 = true ∧ finK ms ds ρ fun ds' => F.ok x ds') := rfl
@[simp ↓] theorem ends_ex {ms : List Md} {ds : List D} {F : Pf} {C : Addr} {fl : List (Str × D)} {ρ : Rho} : (endsOf ms ds F).ex C fl ρ = finK ms ds ρ fun ds' => F.ex C fl ds' := rfl
@[simp ↓] theorem finK_nil {ds : List D} {ρ : Rho} {q : List D → Prop} : finK [] ds ρ q = q [] := rfl
@[simp ↓] theorem finK_F {ms : List Md} {d : D} {ds : List D} {x : Option (Md × D)} {ρ : Rho} {q : List D → Prop} : finK (.F :: ms) (d :: ds) (x :: ρ) q = finK ms ds ρ fun r => q (d :: r) := by cases x <;> rfl
@[simp ↓] theorem finK_P {m m' : Md} {ms : List Md} {d d' : D} {ds : List D} {ρ : Rho} {q : List D → Prop} : finK (.P m :: ms) (d :: ds) (some (.P m', d') :: ρ) q = (m' = m ∧ finK ms ds ρ fun r => q (d' :: r)) := rfl
@[simp ↓] theorem zr_c {m : Md} {ms : List Md} {d : D} {ds : List D} : zr (m :: ms) (d :: ds) = some (m, d) :: zr ms ds := rfl
@[simp ↓] theorem zr_n {ds : List D} : zr [] ds = [] := by cases ds <;> rfl
/-! operations -/
@[simp ↓] theorem oI_eq {c : Int → Int → Prop} {g : Int → Int → Int} {x y : Kd × D} {q : Kd × D → Prop} : oI c g x y q = intK x.2 y.2 fun i j => c i j ∧ q (.fz, .int (g i j)) := rfl
@[simp ↓] theorem oI0_eq {g : Int → Int → Int} {x y : Kd × D} {q : Kd × D → Prop} : oI0 g x y q = intK x.2 y.2 fun i j => q (.fz, .int (g i j)) := rfl
@[simp ↓] theorem oB0_eq {g : Int → Int → Bool} {x y : Kd × D} {q : Kd × D → Prop} : oB0 g x y q = intK x.2 y.2 fun i j => q (.fz, .bl (g i j)) := rfl
@[simp ↓] theorem oEq_eq {x y : Kd × D} {q : Kd × D → Prop} : oEq x y q = eqK x.2 y.2 fun b => q (.fz, .bl b) := rfl
@[simp ↓] theorem oNe_eq {x y : Kd × D} {q : Kd × D → Prop} : oNe x y q = eqK x.2 y.2 fun b => q (.fz, .bl (!b)) := rfl
section
variable {q : Bool → Prop} {a b : Int} {s t : Str} {c e : Bool}
@[simp ↓] theorem eqK_1 : eqK (.int a) (.int b) q = q (decide (a = b)) := rfl
@[simp ↓] theorem eqK_2 : eqK (.str s) (.str t) q = q (decide (s = t)) := rfl
@[simp ↓] theorem eqK_3 : eqK (.bl c) (.bl e) q = q (decide (c = e)) := rfl
@[simp ↓] theorem eqK_4 : eqK .non .non q = q true := rfl
@[simp ↓] theorem eqK_5 : eqK .non (.int b) q = q false := rfl
@[simp ↓] theorem eqK_6 : eqK (.int a) .non q = q false := rfl
@[simp ↓] theorem eqK_7 : eqK .non (.str t) q = q false := rfl
@[simp ↓] theorem eqK_8 : eqK (.str t) .non q = q false := rfl
@[simp ↓] theorem eqK_9 : eqK (.int a) (.str t) q = q false := rfl
@[simp ↓] theorem eqK_10 : eqK (.str t) (.int a) q = q false := rfl
end
@[simp ↓] theorem oIsN_eq {x y : Kd × D} {q : Kd × D → Prop} : oIsN x y q = (isN y.2 = true ∧ q (.fz, .bl (isN x.2))) := rfl
@[simp ↓] theorem oNotN_eq {x y : Kd × D} {q : Kd × D → Prop} : oNotN x y q = (isN y.2 = true ∧ q (.fz, .bl (!isN x.2))) := rfl
@[simp ↓] theorem isN_n : isN .non = true := rfl
@[simp ↓] theorem isN_i {i : Int} : isN (.int i) = false := rfl
@[simp ↓] theorem isN_b {i : Bool} : isN (.bl i) = false := rfl
@[simp ↓] theorem isN_s {i : Str} : isN (.str i) = false := rfl
@[simp ↓] theorem isN_l {i : List D} : isN (.lst i) = false := rfl
@[simp ↓] theorem isN_t {i : List D} : isN (.tup i) = false := rfl
@[simp ↓] theorem isN_d {i : List (Key × D)} : isN (.dct i) = false := rfl
@[simp ↓] theorem isN_o {C : Addr} {fs : List (Str × D)} : isN (.obj C fs) = false := rfl
@[simp ↓] theorem oAdd_i {k k' : Kd} {a b : Int} {q : Kd × D → Prop} : oAdd (k, .int a) (k', .int b) q = q (.fz, .int (a + b)) := rfl
@[simp ↓] theorem oAdd_s {k k' : Kd} {a b : Str} {q : Kd × D → Prop} : oAdd (k, .str a) (k', .str b) q = (small (a.length + b.length) = true ∧ q (.fz, .str (a ++ b))) := rfl
@[simp ↓] theorem oAdd_t {a b : List D} {q : Kd × D → Prop} : oAdd (.fz, .tup a) (.fz, .tup b) q = (small (a.length + b.length) = true ∧ q (.fz, .tup (a ++ b))) := rfl
@[simp ↓] theorem oAdd_l {k k' : Kd} {a b : List D} {q : Kd × D → Prop} : oAdd (k, .lst a) (k', .lst b) q = lstK (k, .lst a) fun a => lstK (k', .lst b) fun b => small (a.length + b.length) = true ∧ q (.new (.L .F), .lst (a ++ b)) := rfl
@[simp ↓] theorem oMul_i {k k' : Kd} {a b : Int} {q : Kd × D → Prop} : oMul (k, .int a) (k', .int b) q = (CMul a b ∧ q (.fz, .int (a * b))) := rfl
@[simp ↓] theorem oMul_l {k k' : Kd} {a : List D} {n : Int} {q : Kd × D → Prop} : oMul (k, .lst a) (k', .int n) q = lstK (k, .lst a) fun ds => (0 ≤ n ∧ small (ds.length * n.toNat) = true ∧ n < 2 ^ 63) ∧ q (.new (.L .F), .lst (List.replicate n.toNat ds).flatten) := rfl
@[simp ↓] theorem lstK_f {a : List D} {q : List D → Prop} : lstK (.fz, .lst a) q = q a := rfl
@[simp ↓] theorem lstK_b {i : Nat} {p : List Nat} {a : List D} {q : List D → Prop} : lstK (.bor i p (.L .F), .lst a) q = q a := rfl
@[simp ↓] theorem lstK_n {a : List D} {q : List D → Prop} : lstK (.new (.L .F), .lst a) q = q a := rfl
@[simp ↓] theorem itmK_t {a : List D} {q : List D → Prop} : itmK (.fz, .tup a) q = q a := rfl
@[simp ↓] theorem itmK_l {k : Kd} {a : List D} {q : List D → Prop} : itmK (k, .lst a) q = lstK (k, .lst a) q := by cases k <;> rfl
@[simp ↓] theorem dctK_f {a : List (Key × D)} {q : List (Key × D) → Prop} : dctK (.fz, .dct a) q = q a := rfl
@[simp ↓] theorem dctK_b {i : Nat} {p : List Nat} {a : List (Key × D)} {q : List (Key × D) → Prop} : dctK (.bor i p .K, .dct a) q = q a := rfl
@[simp ↓] theorem dctK_n {a : List (Key × D)} {q : List (Key × D) → Prop} : dctK (.new .K, .dct a) q = q a := rfl
@[simp ↓] theorem seqK_l {a : List D} {q : List D → Prop} : seqK (.fz, .lst a) q = q a := rfl
@[simp ↓] theorem seqK_t {a : List D} {q : List D → Prop} : seqK (.fz, .tup a) q = q a := rfl
@[simp ↓] theorem oIx_l {k : Kd} {ds : List D} {i : Int} {q : Kd × D → Prop} : oIx (.fz, .lst ds) (k, .int i) q = optK (atI ds i) fun d => q (.fz, d) := rfl
@[simp ↓] theorem oIx_n {k : Kd} {ds : List D} {i : Int} {q : Kd × D → Prop} : oIx (.new (.L .F), .lst ds) (k, .int i) q = optK (atI ds i) fun d => q (.fz, d) := rfl
@[simp ↓] theorem oIx_b {k : Kd} {b : Nat} {p : List Nat} {m : Md} {ds : List D} {i : Int} {q : Kd × D → Prop} : oIx (.bor b p (.L m), .lst ds) (k, .int i) q = optK (ixN ds.length i) fun j => optK ds[j]? fun d => q (kAt b (p ++ [j]) m, d) := rfl
@[simp ↓] theorem oIx_t {k : Kd} {ds : List D} {i : Int} {q : Kd × D → Prop} : oIx (.fz, .tup ds) (k, .int i) q = optK (atI ds i) fun d => q (.fz, d) := rfl
@[simp ↓] theorem oIx_bt {k : Kd} {b : Nat} {p : List Nat} {ms : List Md} {ds : List D} {i : Int} {q : Kd × D → Prop} : oIx (.bor b p (.T ms), .tup ds) (k, .int i) q = optK (ixN ds.length i) fun j => optK ms[j]? fun m => optK ds[j]? fun d => q (kAt b (p ++ [j]) m, d) := rfl
@[simp ↓] theorem oIx_s {k k' : Kd} {z : Str} {i : Int} {q : Kd × D → Prop} : oIx (k', .str z) (k, .int i) q = (small z.length = true ∧ optK (atI z.cps.toList i) fun c => q (.fz, .str ⟨#[c]⟩)) := by
  cases k' with
  | fz => rfl
  | bor i p m => cases m <;> rfl
  | new m => cases m with
    | L m => cases m <;> rfl
    | _ => rfl
@[simp ↓] theorem oIx_r {k : Kd} {ns : List Int} {i : Int} {q : Kd × D → Prop} : oIx (.fz, .scr ns) (k, .int i) q = optK (atI ns i) fun n => q (.fz, .int n) := rfl
@[simp ↓] theorem oIx_df {es : List (Key × D)} {y : Kd × D} {q : Kd × D → Prop} : oIx (.fz, .dct es) y q = optK (keyOf y.2) fun k => optK (valD es k) fun d => q (.fz, d) := by
  obtain ⟨k, d⟩ := y
  cases d <;> rfl
@[simp ↓] theorem oIx_db {i : Nat} {p : List Nat} {es : List (Key × D)} {y : Kd × D} {q : Kd × D → Prop} : oIx (.bor i p .K, .dct es) y q = optK (keyOf y.2) fun k => optK (valD es k) fun d => q (.fz, d) := by
  obtain ⟨k, d⟩ := y
  cases d <;> rfl
@[simp ↓] theorem keyOf_i {i : Int} : keyOf (.int i) = some (.inl i) := rfl
@[simp ↓] theorem keyOf_s {i : Str} : keyOf (.str i) = some (.inr i) := rfl
@[simp ↓] theorem one1_c {x : Kd × D} {q : Kd × D → Prop} : one1 [x] q = q x := rfl
@[simp ↓] theorem two2_c {x y : Kd × D} {q : Kd × D → Kd × D → Prop} : two2 [x, y] q = q x y := rfl
@[simp ↓] theorem oLen_eq {xs : List (Kd × D)} {q : Kd × D → Prop} : oLen xs q = one1 xs fun x => optK (lenD x.2) fun n => q (.fz, .int n) := rfl
@[simp ↓] theorem lenD_l {ds : List D} : lenD (.lst ds) = some ds.length := rfl
@[simp ↓] theorem lenD_t {ds : List D} : lenD (.tup ds) = some ds.length := rfl
@[simp ↓] theorem lenD_d {ds : List (Key × D)} : lenD (.dct ds) = some ds.length := rfl
@[simp ↓] theorem lenD_r {ds : List Int} : lenD (.scr ds) = some ds.length := rfl
@[simp ↓] theorem lenD_s {z : Str} (h : small z.length = true) : lenD (.str z) = some z.length := by simp [lenD, h]
@[simp ↓] theorem oList_d {k : Kd} {ds : List (Key × D)} {q : Kd × D → Prop} : oList [(k, .dct ds)] q = dctK (k, .dct ds) fun ds => q (.new (.L .F), .lst (ds.map fun kv => kD kv.1)) := rfl
@[simp ↓] theorem oList_l {k : Kd} {ds : List D} {q : Kd × D → Prop} : oList [(k, .lst ds)] q = lstK (k, .lst ds) fun ds => q (.new (.L .F), .lst ds) := by show itmK _ _ = _; rw [itmK_l]
@[simp ↓] theorem oList_t {ds : List D} {q : Kd × D → Prop} : oList [(.fz, .tup ds)] q = q (.new (.L .F), .lst ds) := rfl
@[simp ↓] theorem oTuple_eq {xs : List (Kd × D)} {q : Kd × D → Prop} : oTuple xs q = one1 xs fun x => itmK x fun ds => q (.fz, .tup ds) := rfl
@[simp ↓] theorem oDict_eq {xs : List (Kd × D)} {q : Kd × D → Prop} : oDict xs q = one1 xs fun x => dctK x fun ds => q (.new .K, .dct ds) := rfl
@[simp ↓] theorem oSorted_eq {xs : List (Kd × D)} {q : Kd × D → Prop} : oSorted xs q = one1 xs fun x => lstK x fun ds => optK (intsOf ds) fun ns => ∀ ns' : List Int, ns'.Perm ns → ns'.Pairwise (· ≤ ·) → q (.new (.L .F), .lst (ns'.map .int)) := rfl
@[simp ↓] theorem oAll_eq {xs : List (Kd × D)} {q : Kd × D → Prop} : oAll xs q = one1 xs fun x => lstK x fun ds => optK (blsOf ds) fun bs => q (.fz, .bl (bs.all id)) := rfl
@[simp ↓] theorem oMax2_eq {xs : List (Kd × D)} {q : Kd × D → Prop} : oMax2 xs q = two2 xs fun x y => intK x.2 y.2 fun i j => q (.fz, .int (if j > i then j else i)) := rfl
@[simp ↓] theorem oMin2_eq {xs : List (Kd × D)} {q : Kd × D → Prop} : oMin2 xs q = two2 xs fun x y => intK x.2 y.2 fun i j => q (.fz, .int (if j < i then j else i)) := rfl
@[simp ↓] theorem oInt_i {k : Kd} {i : Int} {q : Kd × D → Prop} : oInt [(k, .int i)] q = q (.fz, .int i) := rfl
@[simp ↓] theorem oInt_b {k : Kd} {b : Bool} {q : Kd × D → Prop} : oInt [(k, .bl b)] q = q (.fz, .int (if b then 1 else 0)) := rfl
@[simp ↓] theorem tyN_1 : tyN .non = some "NoneType" := rfl
@[simp ↓] theorem tyN_2 {b : Bool} : tyN (.bl b) = some "bool" := rfl
@[simp ↓] theorem tyN_3 {b : Int} : tyN (.int b) = some "int" := rfl
@[simp ↓] theorem tyN_4 {b : Str} : tyN (.str b) = some "str" := rfl
@[simp ↓] theorem tyN_5 {b : List D} : tyN (.lst b) = some "list" := rfl
@[simp ↓] theorem tyN_6 {b : List D} : tyN (.tup b) = some "tuple" := rfl
@[simp ↓] theorem tyN_7 {b : List (Key × D)} : tyN (.dct b) = some "dict" := rfl
@[simp ↓] theorem wSl_eq {we : DE (Kd × D)} {wl wh : DE (Option Int)} : wSl we wl wh ρ P = we ρ ⟨fun p1 x ρ1 => wl ρ1 ⟨fun p2 lo ρ2 => wh ρ2 ⟨fun p3 hi ρ3 => hold x.1 (p2 ++ p3) = true ∧ oSl x lo hi fun z => P.ok (p1 ++ (p2 ++ p3)) z ρ3, P.ex⟩, P.ex⟩, P.ex⟩ := rfl
@[simp ↓] theorem wNo_eq : wNo ρ PO' = PO'.ok [] none ρ := rfl
def intK1 (d : D) (q : Int → Prop) : Prop := match d with
  | .int i => q i
  | _ => False
@[simp ↓] theorem intK1_i {i : Int} {q : Int → Prop} : intK1 (.int i) q = q i := rfl
@[simp ↓] theorem wSo_eq {we : DE (Kd × D)} : wSo we ρ PO' = we ρ ⟨fun p x ρ' => intK1 x.2 fun i => PO'.ok p (some i) ρ', PO'.ex⟩ := by
  unfold wSo
  congr 2
@[simp ↓] theorem oSl_l {k : Kd} {ds : List D} {lo hi : Option Int} {q : Kd × D → Prop} : oSl (k, .lst ds) lo hi q = lstK (k, .lst ds) fun ds => q (.new (.L .F), .lst (cutD ds lo hi)) := rfl
@[simp ↓] theorem oSl_t {ds : List D} {lo hi : Option Int} {q : Kd × D → Prop} : oSl (.fz, .tup ds) lo hi q = q (.fz, .tup (cutD ds lo hi)) := rfl
@[simp ↓] theorem oSl_r {k : Kd} {ns : List Int} {lo hi : Option Int} {q : Kd × D → Prop} : oSl (k, .scr ns) lo hi q = q (.new (.L .F), .lst (cutD (ns.map .int) lo hi)) := rfl
@[simp ↓] theorem oIn_eq {x y : Kd × D} {q : Kd × D → Prop} : oIn x y q = seqInK x.2 y fun b => q (.fz, .bl b) := rfl
@[simp ↓] theorem oNotIn_eq {x y : Kd × D} {q : Kd × D → Prop} : oNotIn x y q = seqInK x.2 y fun b => q (.fz, .bl (!b)) := rfl
@[simp ↓] theorem seqInK_l {x : D} {k : Kd} {ds : List D} {q : Bool → Prop} : seqInK x (k, .lst ds) q = ((scD x = true ∧ ds.all scD = true) ∧ q (ds.any fun z => eqvD z x)) := rfl
@[simp ↓] theorem seqInK_t {x : D} {k : Kd} {ds : List D} {q : Bool → Prop} : seqInK x (k, .tup ds) q = ((scD x = true ∧ ds.all scD = true) ∧ q (ds.any fun z => eqvD z x)) := rfl
@[simp ↓] theorem seqInK_d {x : D} {k : Kd} {ds : List (Key × D)} {q : Bool → Prop} : seqInK x (k, .dct ds) q = optK (keyOf x) fun key => dctK (k, .dct ds) fun ds => q (valD ds key).isSome := rfl
/-! fields, methods -/
@[simp ↓] theorem wFld_eq {C : Addr} {f : Str} {j : Nat} {we : DE (Kd × D)} : wFld C f j we ρ P = we ρ ⟨fun p x ρ' => fldK C f j x fun z => P.ok p z ρ', P.ex⟩ := rfl
def nthK {α : Type} (xs : List α) (j : Nat) (q : α → Prop) : Prop := match xs, j with
  | [], _ => False
  | x :: _, 0 => q x
  | _ :: xs, j + 1 => nthK xs j q
theorem nthK_of {α : Type} : ∀ {xs : List α} {j : Nat} {q : α → Prop}, nthK xs j q = (match xs[j]? with | some x => q x | none => False)
  | [], _, _ => by simp [nthK]
  | _ :: _, 0, _ => rfl
  | _ :: xs, j + 1, q => by simp [nthK, nthK_of (xs := xs)]
@[simp ↓] theorem nthK_0 {α : Type} {x : α} {xs : List α} {q : α → Prop} : nthK (x :: xs) 0 q = q x := rfl
@[simp ↓] theorem nthK_s {α : Type} {x : α} {xs : List α} {j : Nat} {q : α → Prop} : nthK (x :: xs) (j + 1) q = nthK xs j q := rfl
@[simp ↓] theorem fldK_f {C C' : Addr} {f : Str} {j : Nat} {fs : List (Str × D)} {q : Kd × D → Prop} : fldK C f j (.fz, .obj C' fs) q = (C' = C ∧ nthK fs j fun kd => kd.1 = f ∧ q (.fz, kd.2)) := by
  rw [nthK_of]
  show (C' = C ∧ _) = _
  congr 1
  cases fs[j]? <;> rfl
@[simp ↓] theorem fldK_b {C C' : Addr} {f : Str} {j i : Nat} {p : List Nat} {ms : List Md} {fs : List (Str × D)} {q : Kd × D → Prop} : fldK C f j (.bor i p (.O ms), .obj C' fs) q = (C' = C ∧ nthK fs j fun kd => nthK ms j fun m => kd.1 = f ∧ q (kAt i (p ++ [j]) m, kd.2)) := by
  rw [nthK_of]
  show (C' = C ∧ _) = _
  congr 1
  cases fs[j]? with
  | none => rfl
  | some x =>
    show _ = nthK ms j _
    rw [nthK_of]
    cases ms[j]? <;> rfl
@[simp ↓] theorem wPutF_eq {i : Nat} {C : Addr} {f : Str} {j : Nat} {we : DE (Kd × D)} : wPutF i C f j we E ρ = we ρ ⟨fun _ x ρ' => putFldK i C f j x ρ' E.nx, E.ex⟩ := rfl
@[simp ↓] theorem wMut_eq {o : OM} {wr : DE (Kd × D)} {wa : DE (List (Kd × D))} : wMut o wr wa ρ P = wr ρ ⟨fun p1 x ρ1 => isL x.2 = true ∧ wa ρ1 ⟨fun p2 es ρ2 => hold x.1 p2 = true ∧ mutK o x es fun i p d' z => P.ok (p1 ++ (p2 ++ [i])) (.fz, z) (setAt ρ2 i p d'), P.ex⟩, P.ex⟩ := rfl
@[simp ↓] theorem isL_l {ds : List D} : isL (.lst ds) = true := rfl
@[simp ↓] theorem mutK_l {o : OM} {i : Nat} {p : List Nat} {ds : List D} {es : List (Kd × D)} {q : Nat → List Nat → D → D → Prop} : mutK o (.bor i p (.L .F), .lst ds) es q = (allFz es = true ∧ o ds (es.map (·.2)) fun ds' z => q i p (.lst ds') z) := rfl
@[simp ↓] theorem mApp_eq {ds : List D} {x : D} {q : List D → D → Prop} : mApp ds [x] q = (small (ds.length + 1) = true ∧ q (ds ++ [x]) .non) := rfl
@[simp ↓] theorem mExt_eq {ds xs : List D} {q : List D → D → Prop} : mExt ds [.lst xs] q = (small (ds.length + xs.length) = true ∧ q (ds ++ xs) .non) := rfl
@[simp ↓] theorem mClear_eq {ds : List D} {q : List D → D → Prop} : mClear ds [] q = q [] .non := rfl
@[simp ↓] theorem mRev_eq {ds : List D} {q : List D → D → Prop} : mRev ds [] q = q ds.reverse .non := rfl
@[simp ↓] theorem setAt_0 {m : Md} {d0 d : D} {ρ : Rho} {p : List Nat} : setAt (some (m, d0) :: ρ) 0 p d = some (m, dSet d0 p d) :: ρ := rfl
@[simp ↓] theorem setAt_s {x : Option (Md × D)} {d : D} {ρ : Rho} {i : Nat} {p : List Nat} : setAt (x :: ρ) (i + 1) p d = x :: setAt ρ i p d := by
  unfold setAt
  rw [List.getElem?_cons_succ]
  cases ρ[i]? with
  | none => rfl
  | some y => cases y <;> rfl
@[simp ↓] theorem dSet_0 {d0 d : D} : dSet d0 [] d = d := by cases d0 <;> rfl
@[simp ↓] theorem wGet_eq {wr : DE (Kd × D)} {wa : DE (List (Kd × D))} : wGet wr wa ρ P = wr ρ ⟨fun p1 x ρ1 => isDct x.2 = true ∧ wa ρ1 ⟨fun p2 es ρ2 => hold x.1 p2 = true ∧ oGet x es fun z => P.ok (p1 ++ p2) z ρ2, P.ex⟩, P.ex⟩ := rfl
@[simp ↓] theorem isDct_d {ds : List (Key × D)} : isDct (.dct ds) = true := rfl
def getD' (o : Option D) (z : D) : D := match o with
  | some d => d
  | none => z
@[simp ↓] theorem oGet_2 {k : Kd} {ds : List (Key × D)} {y : Kd × D} {z : D} {q : Kd × D → Prop} : oGet (k, .dct ds) [y, (.fz, z)] q = optK (keyOf y.2) fun key => dctK (k, .dct ds) fun ds => q (.fz, getD' (valD ds key) z) := by
  show optK (keyOf y.2) _ = _
  congr 1
  funext key
  congr 1
  funext ds
  cases valD ds key <;> rfl
@[simp ↓] theorem oGet_1 {k : Kd} {ds : List (Key × D)} {y : Kd × D} {q : Kd × D → Prop} : oGet (k, .dct ds) [y] q = optK (keyOf y.2) fun key => dctK (k, .dct ds) fun ds => q (.fz, getD' (valD ds key) .non) := by
  show optK (keyOf y.2) _ = _
  congr 1
  funext key
  congr 1
  funext ds
  cases valD ds key <;> rfl
@[simp ↓] theorem wPopD_eq {wr : DE (Kd × D)} {wa : DE (List (Kd × D))} : wPopD wr wa ρ P = wr ρ ⟨fun p1 x ρ1 => isDct x.2 = true ∧ wa ρ1 ⟨fun p2 es ρ2 => hold x.1 p2 = true ∧ dPopK x es (fun i p d' z => P.ok (p1 ++ (p2 ++ [i])) (.fz, z) (setAt ρ2 i p d')) (fun z => P.ok (p1 ++ p2) (.fz, z) ρ2), P.ex⟩, P.ex⟩ := rfl
@[simp ↓] theorem dPopK_1 {i : Nat} {p : List Nat} {ds : List (Key × D)} {y : Kd × D} {q : Nat → List Nat → D → D → Prop} {q0 : D → Prop} : dPopK (.bor i p .K, .dct ds) [y] q q0 = optK (keyOf y.2) fun k => optK (valD ds k) fun d => q i p (.dct (dropKD ds k)) d := rfl
@[simp ↓] theorem dPopK_2 {i : Nat} {p : List Nat} {ds : List (Key × D)} {y : Kd × D} {z : D} {q : Nat → List Nat → D → D → Prop} {q0 : D → Prop} : dPopK (.bor i p .K, .dct ds) [y, (.fz, z)] q q0 = optK (keyOf y.2) fun k => (∀ d, valD ds k = some d → q i p (.dct (dropKD ds k)) d) ∧ (valD ds k = none → q0 z) := by
  show optK (keyOf y.2) _ = _
  congr 1
  funext k
  cases e : valD ds k with
  | some d => simp
  | none => simp
@[simp ↓] theorem wSub_eq {wv wr wi : DE (Kd × D)} : wSub wv wr wi E ρ = wv ρ ⟨fun _ x ρ1 => x.1.frz.md = some .F ∧ wr ρ1 ⟨fun _ r ρ2 => wi ρ2 ⟨fun p3 y ρ3 => hold r.1 p3 = true ∧ subK r y x.2 fun i p d' => E.nx (setAt ρ3 i p d'), E.ex⟩, E.ex⟩, E.ex⟩ := rfl
@[simp ↓] theorem md_f : Kd.md .fz = some .F := rfl
@[simp ↓] theorem md_n {m : Md} : Kd.md (.new m) = some m := rfl
@[simp ↓] theorem subK_l {k : Kd} {i : Nat} {p : List Nat} {ds : List D} {j : Int} {v : D} {q : Nat → List Nat → D → Prop} : subK (.bor i p (.L .F), .lst ds) (k, .int j) v q = optK (ixN ds.length j) fun j => q i p (.lst (ds.set j v)) := rfl
@[simp ↓] theorem subK_d {i : Nat} {p : List Nat} {ds : List (Key × D)} {y : Kd × D} {v : D} {q : Nat → List Nat → D → Prop} : subK (.bor i p .K, .dct ds) y v q = optK (keyOf y.2) fun k => small (ds.length + 1) = true ∧ q i p (.dct (putKD ds k v)) := by
  obtain ⟨k, d⟩ := y
  cases d <;> rfl
@[simp ↓] theorem wMeth_eq {C : Addr} {m : Str} {ms : List Md} {Wf : DF} {dfl : List D} {wr : DE (Kd × D)} {wa : DE (List (Kd × D))} : wMeth C m ms Wf dfl wr wa ρ P = wr ρ ⟨fun p1 x ρ1 => objOk C m x.2 ∧ wa ρ1 ⟨fun p2 xs ρ2 => hold x.1 p2 = true ∧ callK ms Wf (p1 ++ p2) (x :: (xs ++ dfl.map fun d => (.fz, d))) ρ2 P, P.ex⟩, P.ex⟩ := rfl
@[simp ↓] theorem objOk_o {C C' : Addr} {m : Str} {fs : List (Str × D)} : objOk C m (.obj C' fs) = (C' = C ∧ (fs.map (·.1)).contains m = false) := rfl
@[simp ↓] theorem wCall_eq {ms : List Md} {Wf : DF} {dfl : List D} {wa : DE (List (Kd × D))} : wCall ms Wf dfl wa ρ P = wa ρ ⟨fun p xs ρ1 => callK ms Wf p (xs ++ dfl.map fun d => (.fz, d)) ρ1 P, P.ex⟩ := rfl
@[simp ↓] theorem wCallB_eq {n : Nat} {Wf : DF} {dfl : List D} {wa : DE (List (Kd × D))} : wCallB n Wf dfl wa ρ P = wa ρ ⟨fun p xs ρ1 => xs.length + dfl.length = n ∧ Wf (xs.map (·.2) ++ dfl) ⟨fun z _ => scD z.2 = true ∧ P.ok p (.fz, z.2) ρ1, fun C fl _ => fl = [] ∧ P.ex C [] ρ1⟩, P.ex⟩ := rfl
@[simp ↓] theorem wMake_eq {C : Addr} {n : Nat} {fm : List Md} {Wf : DF} {dfl : List D} {wa : DE (List (Kd × D))} : wMake C n fm Wf dfl wa ρ P = wa ρ ⟨fun p xs ρ1 => (allFz xs = true ∧ xs.length + dfl.length = n) ∧ Wf (.obj C [] :: (xs.map (·.2) ++ dfl)) ⟨fun z ds' => isN z.2 = true ∧ headK ds' fun d => P.ok p (.new (.O fm), d) ρ1, fun C fl _ => P.ex C fl ρ1⟩, P.ex⟩ := rfl
@[simp ↓] theorem headK_c {d : D} {ds : List D} {q : D → Prop} : headK (d :: ds) q = q d := rfl
@[simp ↓] theorem callK_eq {ms : List Md} {Wf : DF} {p : List Nat} {xs : List (Kd × D)} : callK ms Wf p xs ρ P = ((argsOk ms xs ∧ nodupB (borS xs) = true) ∧ Wf (xs.map (·.2)) ⟨fun z ds' => P.ok (p ++ borS xs) z (putBack xs ds' ρ), fun C fl ds' => P.ex C fl (putBack xs ds' ρ)⟩) := rfl
@[simp ↓] theorem argsOk_n : argsOk [] [] = True := rfl
@[simp ↓] theorem argsOk_F {ms : List Md} {d : D} {xs : List (Kd × D)} : argsOk (.F :: ms) ((.fz, d) :: xs) = argsOk ms xs := rfl
@[simp ↓] theorem argsOk_P {m m' : Md} {ms : List Md} {i : Nat} {p : List Nat} {d : D} {xs : List (Kd × D)} : argsOk (.P m :: ms) ((.bor i p m', d) :: xs) = (m' = m ∧ argsOk ms xs) := rfl
@[simp ↓] theorem borS_n : borS [] = [] := rfl
@[simp ↓] theorem borS_f {d : D} {xs : List (Kd × D)} : borS ((.fz, d) :: xs) = borS xs := rfl
@[simp ↓] theorem borS_b {i : Nat} {p : List Nat} {m : Md} {d : D} {xs : List (Kd × D)} : borS ((.bor i p m, d) :: xs) = i :: borS xs := rfl
@[simp ↓] theorem putBack_n {ds : List D} : putBack [] ds ρ = ρ := by cases ds <;> rfl
@[simp ↓] theorem putBack_f {d d' : D} {ds : List D} {xs : List (Kd × D)} : putBack ((.fz, d) :: xs) (d' :: ds) ρ = putBack xs ds ρ := rfl
@[simp ↓] theorem putBack_b {i : Nat} {p : List Nat} {m : Md} {d d' : D} {ds : List D} {xs : List (Kd × D)} : putBack ((.bor i p m, d) :: xs) (d' :: ds) ρ = putBack xs ds (setAt ρ i p d') := rfl
/-! loops -/
@[simp ↓] theorem wIt_eq {we : DE (Kd × D)} : wIt we ρ PL = we ρ ⟨fun p x ρ' => seqK (x.1.frz, x.2) fun ds => PL.ok p ds ρ', PL.ex⟩ := rfl
@[simp ↓] theorem wRev_eq {we : DE (Kd × D)} : wRev we ρ PL = we ρ ⟨fun p x ρ' => seqK (x.1.frz, x.2) fun ds => PL.ok p ds.reverse ρ', PL.ex⟩ := rfl
@[simp ↓] theorem wRng1_eq {wa : DE (List (Kd × D))} : wRng1 wa ρ PL = wa ρ ⟨fun p xs ρ' => rng1 xs fun ds => PL.ok p ds ρ', PL.ex⟩ := rfl
@[simp ↓] theorem wRng2_eq {wa : DE (List (Kd × D))} : wRng2 wa ρ PL = wa ρ ⟨fun p xs ρ' => rng2 xs fun ds => PL.ok p ds ρ', PL.ex⟩ := rfl
@[simp ↓] theorem rng1_c {k : Kd} {j : Int} {q : List D → Prop} : rng1 [(k, .int j)] q = (inR j ∧ q (rangeD 0 j.toNat)) := rfl
@[simp ↓] theorem rng2_c {k k' : Kd} {i j : Int} {q : List D → Prop} : rng2 [(k, .int i), (k', .int j)] q = ((inR i ∧ inR j) ∧ q (rangeD i (j - i).toNat)) := rfl
@[simp ↓] theorem wEnum_eq {wa : DE (List (Kd × D))} : wEnum wa ρ PL = wa ρ ⟨fun p xs ρ' => isL1 xs fun ds => PL.ok p (enumD ds) ρ', PL.ex⟩ := rfl
@[simp ↓] theorem wZip_eq {wa : DE (List (Kd × D))} : wZip wa ρ PL = wa ρ ⟨fun p xs ρ' => isL2 xs fun ds es => PL.ok p (zipD ds es) ρ', PL.ex⟩ := rfl
@[simp ↓] theorem isL1_c {ds : List D} {q : List D → Prop} : isL1 [(.fz, .lst ds)] q = q ds := rfl
@[simp ↓] theorem isL2_c {ds es : List D} {q : List D → List D → Prop} : isL2 [(.fz, .lst ds), (.fz, .lst es)] q = q ds es := rfl
@[simp ↓] theorem isL2_t {ds es : List D} {q : List D → List D → Prop} : isL2 [(.fz, .tup ds), (.fz, .tup es)] q = q ds es := rfl
end
def forK (ds : List D) (g : DG) (b : DS) (E : En) (ρ : Rho) : Prop := ∃ I : Nat → Rho → Prop, I 0 ρ ∧ (∀ i d ρ2, ds[i]? = some d → I i ρ2 → g d ρ2 fun ρ3 => b { E with nx := I (i + 1), ct := I (i + 1), bk := E.nx } ρ3) ∧ (∀ ρ2, I ds.length ρ2 → E.nx ρ2)
@[simp ↓] theorem wFor_eq {w : DE (List D)} {g : DG} {b : DS} {E : En} {ρ : Rho} : wFor w g b E ρ = w ρ ⟨fun _ ds ρ1 => forK ds g b E ρ1, E.ex⟩ := rfl
@[simp ↓] theorem forK_nil {g : DG} {b : DS} {E : En} {ρ : Rho} : forK [] g b E ρ = E.nx ρ := propext ⟨fun ⟨I, h0, _, he⟩ => he ρ h0, fun h => ⟨fun _ r => r = ρ, rfl, fun i d ρ2 h => by simp at h, fun ρ2 e => e ▸ h⟩⟩
end VL

namespace VL
open PySem PySem.Spec PyProof.Rows L2
section
variable {K : PySem.W.Frag} {W : WX} {G G' H H' H0 : Hp} {σ : L2.St} {X : Cx} {S S0 S1 T T1 T2 U : Sta} {E : En} {Z : Ends}
/-! ### what was missing -/
def oNeg : O1 := fun x q => intK1 x.2 fun i => q (.fz, .int (-i))
theorem ok_Neg : OkR1 K (rU fun i => .int (-i)) oNeg := fun S0 S x dx Q q ok hx h k => by
  obtain ⟨kd, d⟩ := dx
  cases d with
  | int i => exact ⟨i, hx.int_inv ok, stay ok k h (v := .int (-i)) (.int _)⟩
  | _ => exact h.elim
@[simp ↓] theorem oNeg_eq {x : Kd × D} {q : Kd × D → Prop} : oNeg x q = intK1 x.2 fun i => q (.fz, .int (-i)) := rfl
section
variable {elt tg iter : Expr} {ifs : List Expr} {scope : Scope} {own : List (Str × Nat)} {pos : Pos} {wi : DE (List D)} {g : DG} {t : DE Bool} {we : DE (Kd × D)}
/-- y = [..] on one line, frozen -/
theorem q_setLcF (q : List Nat) {i : Nat} {y : Str} {py spos : Pos} (hc : X.calm = true) (hN : X.N.Nodup) (hi : PI X tg iter (ti X.K W wi)) (ok : BlkOk X.N X.env.scope scope own)
    (hg : ∀ (s : Shared) (H : Hp) (C : Addr) (cl : List (Str × Addr)) (fp : List Addr), PG (X.blk s H scope (compEnvC scope cl C X.env) fp) tg (VL.tg X.K (own.map (·.2)) g)) (ht : ∀ (s : Shared) (H : Hp) (C : Addr) (cl : List (Str × Addr)) (fp : List Addr), PTs (X.blk s H scope (compEnvC scope cl C X.env) fp) ifs (tt X.K (fun _ _ _ _ => False) t))
    (he : ∀ (s : Shared) (H : Hp) (C : Addr) (cl : List (Str × Addr)) (fp : List Addr), PE (X.blk s H scope (compEnvC scope cl C X.env) fp) elt (te X.K (fun _ _ _ _ => False) we)) (hs : ∀ x, foldedSetIterable iter X.env x = pure x := by intro _; rfl)
    (hy : X.N[i]? = some y := by rfl) (hyl : X.env.scope.names.lookup y = some .local := by rfl)
    (hsw : swapsWith (.ListComp elt [⟨tg, iter, ifs, 0⟩] scope pos) (some (.Name y py)) spos.line X.env = pure true := by rfl) :
    PS X (.Assign [.Name y py] (.ListComp elt [⟨tg, iter, ifs, 0⟩] scope pos) spos) (ts X.K W (wSet i (wFz (wLc wi g t we (own.map (·.2)) q)))) := PS.imp (ps_setLc hc hN hy hyl hsw hi ok hg ht he hs) fun Z σ H h => by
  obtain ⟨S, E, rfl, rfl, ok, w, l⟩ := h
  have h1 := ts_set (K := X.K) (W := W) (Z := Z) ⟨S, E, rfl, rfl, ok, w, l⟩
  exact te_lc (te_fz h1)
end
end
/-! more for simp -/
def isiK (t T : String) (q : Bool → Prop) : Prop := q (isTy t T)
@[simp ↓] theorem wIsi_eq' {T : String} {we : DE (Kd × D)} {ρ : Rho} {P : Po (Kd × D)} : wIsi T we ρ P = we ρ ⟨fun p x ρ' => optK (tyN x.2) fun t => isiK t T fun b => P.ok p (.fz, .bl b) ρ', P.ex⟩ := rfl
@[simp ↓] theorem isiK_NoneType_bool {q : Bool → Prop} : isiK "NoneType" "bool" q = q false := by rw [isiK, show isTy "NoneType" "bool" = false by decide]
@[simp ↓] theorem isiK_NoneType_int {q : Bool → Prop} : isiK "NoneType" "int" q = q false := by rw [isiK, show isTy "NoneType" "int" = false by decide]
@[simp ↓] theorem isiK_NoneType_str {q : Bool → Prop} : isiK "NoneType" "str" q = q false := by rw [isiK, show isTy "NoneType" "str" = false by decide]
@[simp ↓] theorem isiK_NoneType_list {q : Bool → Prop} : isiK "NoneType" "list" q = q false := by rw [isiK, show isTy "NoneType" "list" = false by decide]
@[simp ↓] theorem isiK_NoneType_tuple {q : Bool → Prop} : isiK "NoneType" "tuple" q = q false := by rw [isiK, show isTy "NoneType" "tuple" = false by decide]
@[simp ↓] theorem isiK_NoneType_dict {q : Bool → Prop} : isiK "NoneType" "dict" q = q false := by rw [isiK, show isTy "NoneType" "dict" = false by decide]
@[simp ↓] theorem isiK_bool_bool {q : Bool → Prop} : isiK "bool" "bool" q = q true := by rw [isiK, show isTy "bool" "bool" = true by decide]
@[simp ↓] theorem isiK_bool_int {q : Bool → Prop} : isiK "bool" "int" q = q true := by rw [isiK, show isTy "bool" "int" = true by decide]
@[simp ↓] theorem isiK_bool_str {q : Bool → Prop} : isiK "bool" "str" q = q false := by rw [isiK, show isTy "bool" "str" = false by decide]
@[simp ↓] theorem isiK_bool_list {q : Bool → Prop} : isiK "bool" "list" q = q false := by rw [isiK, show isTy "bool" "list" = false by decide]
@[simp ↓] theorem isiK_bool_tuple {q : Bool → Prop} : isiK "bool" "tuple" q = q false := by rw [isiK, show isTy "bool" "tuple" = false by decide]
@[simp ↓] theorem isiK_bool_dict {q : Bool → Prop} : isiK "bool" "dict" q = q false := by rw [isiK, show isTy "bool" "dict" = false by decide]
@[simp ↓] theorem isiK_int_bool {q : Bool → Prop} : isiK "int" "bool" q = q false := by rw [isiK, show isTy "int" "bool" = false by decide]
@[simp ↓] theorem isiK_int_int {q : Bool → Prop} : isiK "int" "int" q = q true := by rw [isiK, show isTy "int" "int" = true by decide]
@[simp ↓] theorem isiK_int_str {q : Bool → Prop} : isiK "int" "str" q = q false := by rw [isiK, show isTy "int" "str" = false by decide]
@[simp ↓] theorem isiK_int_list {q : Bool → Prop} : isiK "int" "list" q = q false := by rw [isiK, show isTy "int" "list" = false by decide]
@[simp ↓] theorem isiK_int_tuple {q : Bool → Prop} : isiK "int" "tuple" q = q false := by rw [isiK, show isTy "int" "tuple" = false by decide]
@[simp ↓] theorem isiK_int_dict {q : Bool → Prop} : isiK "int" "dict" q = q false := by rw [isiK, show isTy "int" "dict" = false by decide]
@[simp ↓] theorem isiK_str_bool {q : Bool → Prop} : isiK "str" "bool" q = q false := by rw [isiK, show isTy "str" "bool" = false by decide]
@[simp ↓] theorem isiK_str_int {q : Bool → Prop} : isiK "str" "int" q = q false := by rw [isiK, show isTy "str" "int" = false by decide]
@[simp ↓] theorem isiK_str_str {q : Bool → Prop} : isiK "str" "str" q = q true := by rw [isiK, show isTy "str" "str" = true by decide]
@[simp ↓] theorem isiK_str_list {q : Bool → Prop} : isiK "str" "list" q = q false := by rw [isiK, show isTy "str" "list" = false by decide]
@[simp ↓] theorem isiK_str_tuple {q : Bool → Prop} : isiK "str" "tuple" q = q false := by rw [isiK, show isTy "str" "tuple" = false by decide]
@[simp ↓] theorem isiK_str_dict {q : Bool → Prop} : isiK "str" "dict" q = q false := by rw [isiK, show isTy "str" "dict" = false by decide]
@[simp ↓] theorem isiK_list_bool {q : Bool → Prop} : isiK "list" "bool" q = q false := by rw [isiK, show isTy "list" "bool" = false by decide]
@[simp ↓] theorem isiK_list_int {q : Bool → Prop} : isiK "list" "int" q = q false := by rw [isiK, show isTy "list" "int" = false by decide]
@[simp ↓] theorem isiK_list_str {q : Bool → Prop} : isiK "list" "str" q = q false := by rw [isiK, show isTy "list" "str" = false by decide]
@[simp ↓] theorem isiK_list_list {q : Bool → Prop} : isiK "list" "list" q = q true := by rw [isiK, show isTy "list" "list" = true by decide]
@[simp ↓] theorem isiK_list_tuple {q : Bool → Prop} : isiK "list" "tuple" q = q false := by rw [isiK, show isTy "list" "tuple" = false by decide]
@[simp ↓] theorem isiK_list_dict {q : Bool → Prop} : isiK "list" "dict" q = q false := by rw [isiK, show isTy "list" "dict" = false by decide]
@[simp ↓] theorem isiK_tuple_bool {q : Bool → Prop} : isiK "tuple" "bool" q = q false := by rw [isiK, show isTy "tuple" "bool" = false by decide]
@[simp ↓] theorem isiK_tuple_int {q : Bool → Prop} : isiK "tuple" "int" q = q false := by rw [isiK, show isTy "tuple" "int" = false by decide]
@[simp ↓] theorem isiK_tuple_str {q : Bool → Prop} : isiK "tuple" "str" q = q false := by rw [isiK, show isTy "tuple" "str" = false by decide]
@[simp ↓] theorem isiK_tuple_list {q : Bool → Prop} : isiK "tuple" "list" q = q false := by rw [isiK, show isTy "tuple" "list" = false by decide]
@[simp ↓] theorem isiK_tuple_tuple {q : Bool → Prop} : isiK "tuple" "tuple" q = q true := by rw [isiK, show isTy "tuple" "tuple" = true by decide]
@[simp ↓] theorem isiK_tuple_dict {q : Bool → Prop} : isiK "tuple" "dict" q = q false := by rw [isiK, show isTy "tuple" "dict" = false by decide]
@[simp ↓] theorem isiK_dict_bool {q : Bool → Prop} : isiK "dict" "bool" q = q false := by rw [isiK, show isTy "dict" "bool" = false by decide]
@[simp ↓] theorem isiK_dict_int {q : Bool → Prop} : isiK "dict" "int" q = q false := by rw [isiK, show isTy "dict" "int" = false by decide]
@[simp ↓] theorem isiK_dict_str {q : Bool → Prop} : isiK "dict" "str" q = q false := by rw [isiK, show isTy "dict" "str" = false by decide]
@[simp ↓] theorem isiK_dict_list {q : Bool → Prop} : isiK "dict" "list" q = q false := by rw [isiK, show isTy "dict" "list" = false by decide]
@[simp ↓] theorem isiK_dict_tuple {q : Bool → Prop} : isiK "dict" "tuple" q = q false := by rw [isiK, show isTy "dict" "tuple" = false by decide]
@[simp ↓] theorem isiK_dict_dict {q : Bool → Prop} : isiK "dict" "dict" q = q true := by rw [isiK, show isTy "dict" "dict" = true by decide]
@[simp ↓] theorem ixN_0 {n : Nat} : ixN (n + 1) 0 = some 0 := by simp [ixN] <;> omega
@[simp ↓] theorem atI_0 {α : Type} {x0 : α} {r : List α} : L2.atI (x0 :: r) 0 = some x0 := by
  have h : ixN (x0 :: r).length 0 = some 0 := by simp [ixN] <;> omega
  unfold L2.atI
  rw [h]
  rfl
@[simp ↓] theorem atI_1 {α : Type} {x0 x1 : α} {r : List α} : L2.atI (x0 :: x1 :: r) 1 = some x1 := by
  have h : ixN (x0 :: x1 :: r).length 1 = some 1 := by simp [ixN] <;> omega
  unfold L2.atI
  rw [h]
  rfl
@[simp ↓] theorem atI_2 {α : Type} {x0 x1 x2 : α} {r : List α} : L2.atI (x0 :: x1 :: x2 :: r) 2 = some x2 := by
  have h : ixN (x0 :: x1 :: x2 :: r).length 2 = some 2 := by simp [ixN] <;> omega
  unfold L2.atI
  rw [h]
  rfl
@[simp ↓] theorem atI_3 {α : Type} {x0 x1 x2 x3 : α} {r : List α} : L2.atI (x0 :: x1 :: x2 :: x3 :: r) 3 = some x3 := by
  have h : ixN (x0 :: x1 :: x2 :: x3 :: r).length 3 = some 3 := by simp [ixN] <;> omega
  unfold L2.atI
  rw [h]
  rfl
@[simp ↓] theorem atI_4 {α : Type} {x0 x1 x2 x3 x4 : α} {r : List α} : L2.atI (x0 :: x1 :: x2 :: x3 :: x4 :: r) 4 = some x4 := by
  have h : ixN (x0 :: x1 :: x2 :: x3 :: x4 :: r).length 4 = some 4 := by simp [ixN] <;> omega
  unfold L2.atI
  rw [h]
  rfl
@[simp ↓] theorem atI_5 {α : Type} {x0 x1 x2 x3 x4 x5 : α} {r : List α} : L2.atI (x0 :: x1 :: x2 :: x3 :: x4 :: x5 :: r) 5 = some x5 := by
  have h : ixN (x0 :: x1 :: x2 :: x3 :: x4 :: x5 :: r).length 5 = some 5 := by simp [ixN] <;> omega
  unfold L2.atI
  rw [h]
  rfl
@[simp ↓] theorem atI_6 {α : Type} {x0 x1 x2 x3 x4 x5 x6 : α} {r : List α} : L2.atI (x0 :: x1 :: x2 :: x3 :: x4 :: x5 :: x6 :: r) 6 = some x6 := by
  have h : ixN (x0 :: x1 :: x2 :: x3 :: x4 :: x5 :: x6 :: r).length 6 = some 6 := by simp [ixN] <;> omega
  unfold L2.atI
  rw [h]
  rfl
@[simp ↓] theorem atI_7 {α : Type} {x0 x1 x2 x3 x4 x5 x6 x7 : α} {r : List α} : L2.atI (x0 :: x1 :: x2 :: x3 :: x4 :: x5 :: x6 :: x7 :: r) 7 = some x7 := by
  have h : ixN (x0 :: x1 :: x2 :: x3 :: x4 :: x5 :: x6 :: x7 :: r).length 7 = some 7 := by simp [ixN] <;> omega
  unfold L2.atI
  rw [h]
  rfl
@[simp ↓] theorem atI_8 {α : Type} {x0 x1 x2 x3 x4 x5 x6 x7 x8 : α} {r : List α} : L2.atI (x0 :: x1 :: x2 :: x3 :: x4 :: x5 :: x6 :: x7 :: x8 :: r) 8 = some x8 := by
  have h : ixN (x0 :: x1 :: x2 :: x3 :: x4 :: x5 :: x6 :: x7 :: x8 :: r).length 8 = some 8 := by simp [ixN] <;> omega
  unfold L2.atI
  rw [h]
  rfl
@[simp ↓] theorem atI_9 {α : Type} {x0 x1 x2 x3 x4 x5 x6 x7 x8 x9 : α} {r : List α} : L2.atI (x0 :: x1 :: x2 :: x3 :: x4 :: x5 :: x6 :: x7 :: x8 :: x9 :: r) 9 = some x9 := by
  have h : ixN (x0 :: x1 :: x2 :: x3 :: x4 :: x5 :: x6 :: x7 :: x8 :: x9 :: r).length 9 = some 9 := by simp [ixN] <;> omega
  unfold L2.atI
  rw [h]
  rfl
@[simp] theorem small_iff {n : Nat} : (small n = true) = (n ≤ 100000) := by simp [small]
@[simp ↓] theorem subL_n {q : List Nat} : subL [] q = true := rfl
@[simp] theorem subL_c {i : Nat} {p q : List Nat} : subL (i :: p) q = (q.contains i && subL p q) := rfl
@[simp ↓] theorem nodupB_n : nodupB [] = true := rfl
@[simp ↓] theorem nodupB_1 {i : Nat} : nodupB [i] = true := by simp [nodupB]
@[simp] theorem nodupB_c {i : Nat} {l : List Nat} : nodupB (i :: l) = (!l.contains i && nodupB l) := rfl
@[simp] theorem scD_n : scD .non = true := rfl
@[simp] theorem scD_b {b : Bool} : scD (.bl b) = true := rfl
@[simp] theorem scD_i {b : Int} : scD (.int b) = true := rfl
@[simp] theorem scD_s {b : Str} : scD (.str b) = true := rfl
@[simp] theorem eqvD_s {a b : Str} : eqvD (.str a) (.str b) = (a == b) := rfl
@[simp] theorem eqvD_i {a b : Int} : eqvD (.int a) (.int b) = (a == b) := rfl
@[simp] theorem eqvD_n : eqvD .non .non = true := rfl
@[simp] theorem eqvD_si {a : Str} {b : Int} : eqvD (.str a) (.int b) = false := rfl
@[simp] theorem eqvD_is {a : Str} {b : Int} : eqvD (.int b) (.str a) = false := rfl
@[simp] theorem eqvD_sn {a : Str} : eqvD (.str a) .non = false := rfl
@[simp] theorem eqvD_in {a : Int} : eqvD (.int a) .non = false := rfl
@[simp] theorem eqvD_ns {a : Str} : eqvD .non (.str a) = false := rfl
@[simp] theorem eqvD_ni {a : Int} : eqvD .non (.int a) = false := rfl
@[simp] theorem ifK_and {a b : Bool} {A B : Prop} : ifK (a && b) A B = ifK a (ifK b A B) B := by cases a <;> rfl
@[simp] theorem ifK_or {a b : Bool} {A B : Prop} : ifK (a || b) A B = ifK a A (ifK b A B) := by cases a <;> rfl
@[simp] theorem ifK_same {b : Bool} {A : Prop} : ifK b A A = A := by cases b <;> rfl
@[simp] theorem ifK_beqI {a b : Int} {A B : Prop} : ifK (a == b) A B = if a = b then A else B := by simp [ifK]
@[simp] theorem ifK_beqS {a b : Str} {A B : Prop} : ifK (a == b) A B = if a = b then A else B := by simp [ifK]
/-! a field stored -/
def mdK (k : Kd) (q : Md → Prop) : Prop := match k.md with
  | some m => q m
  | none => False
@[simp ↓] theorem mdK_f {q : Md → Prop} : mdK .fz q = q .F := rfl
@[simp ↓] theorem mdK_n {m : Md} {q : Md → Prop} : mdK (.new m) q = q m := rfl
def putsK (fs : List (Str × D)) (j : Nat) (f : Str) (d : D) (ms : List Md) (mx : Md) (q : List (Str × D) → List Md → Prop) : Prop := match fs[j]? with
  | some (k, _) => k = f ∧ q (fs.set j (f, d)) (ms.set j mx)
  | none => (fs.map (·.1)).contains f = false ∧ q (fs ++ [(f, d)]) (ms ++ [mx])
@[simp ↓] theorem putFldK_s {i j : Nat} {C : Addr} {f : Str} {x : Kd × D} {y : Option (Md × D)} {ρ : Rho} {q : Rho → Prop} : putFldK (i + 1) C f j x (y :: ρ) q = putFldK i C f j x ρ fun ρ' => q (y :: ρ') := by
  unfold putFldK
  rw [List.getElem?_cons_succ]
  rfl
@[simp ↓] theorem putFldK_P {j : Nat} {C C' : Addr} {f : Str} {x : Kd × D} {ms : List Md} {fs : List (Str × D)} {ρ : Rho} {q : Rho → Prop} : putFldK 0 C f j x (some (.P (.O ms), .obj C' fs) :: ρ) q = mdK x.1 fun mx => (C' = C ∧ notP mx = true ∧ fs.length ≤ 900) ∧ putsK fs j f x.2 ms mx fun fs' ms' => q (some (.P (.O ms'), .obj C fs') :: ρ) := by
  unfold putFldK mdK putsK
  cases x.1.md with
  | none => rfl
  | some mx =>
    show ((C' = C ∧ notP mx = true ∧ Nat.ble fs.length 900 = true) ∧ _) = _
    rw [show (Nat.ble fs.length 900 = true) = (fs.length ≤ 900) by simp]
    congr 1
@[simp ↓] theorem putFldK_O {j : Nat} {C C' : Addr} {f : Str} {x : Kd × D} {ms : List Md} {fs : List (Str × D)} {ρ : Rho} {q : Rho → Prop} : putFldK 0 C f j x (some (.O ms, .obj C' fs) :: ρ) q = mdK x.1 fun mx => (C' = C ∧ notP mx = true ∧ fs.length ≤ 900) ∧ putsK fs j f x.2 ms mx fun fs' ms' => q (some (.O ms', .obj C fs') :: ρ) := by
  unfold putFldK mdK putsK
  cases x.1.md with
  | none => rfl
  | some mx =>
    show ((C' = C ∧ notP mx = true ∧ Nat.ble fs.length 900 = true) ∧ _) = _
    rw [show (Nat.ble fs.length 900 = true) = (fs.length ≤ 900) by simp]
    congr 1
@[simp ↓] theorem putsK_r0 {x0 : Str × D} {r : List (Str × D)} {m0 : Md} {rs : List Md} {f : Str} {d : D} {mx : Md} {q : List (Str × D) → List Md → Prop} : putsK (x0 :: r) 0 f d (m0 :: rs) mx q = (x0.1 = f ∧ q ((f, d) :: r) (mx :: rs)) := rfl
@[simp ↓] theorem putsK_r1 {x0 x1 : Str × D} {r : List (Str × D)} {m0 m1 : Md} {rs : List Md} {f : Str} {d : D} {mx : Md} {q : List (Str × D) → List Md → Prop} : putsK (x0 :: x1 :: r) 1 f d (m0 :: m1 :: rs) mx q = (x1.1 = f ∧ q (x0 :: (f, d) :: r) (m0 :: mx :: rs)) := rfl
@[simp ↓] theorem putsK_r2 {x0 x1 x2 : Str × D} {r : List (Str × D)} {m0 m1 m2 : Md} {rs : List Md} {f : Str} {d : D} {mx : Md} {q : List (Str × D) → List Md → Prop} : putsK (x0 :: x1 :: x2 :: r) 2 f d (m0 :: m1 :: m2 :: rs) mx q = (x2.1 = f ∧ q (x0 :: x1 :: (f, d) :: r) (m0 :: m1 :: mx :: rs)) := rfl
@[simp ↓] theorem putsK_r3 {x0 x1 x2 x3 : Str × D} {r : List (Str × D)} {m0 m1 m2 m3 : Md} {rs : List Md} {f : Str} {d : D} {mx : Md} {q : List (Str × D) → List Md → Prop} : putsK (x0 :: x1 :: x2 :: x3 :: r) 3 f d (m0 :: m1 :: m2 :: m3 :: rs) mx q = (x3.1 = f ∧ q (x0 :: x1 :: x2 :: (f, d) :: r) (m0 :: m1 :: m2 :: mx :: rs)) := rfl
@[simp ↓] theorem putsK_r4 {x0 x1 x2 x3 x4 : Str × D} {r : List (Str × D)} {m0 m1 m2 m3 m4 : Md} {rs : List Md} {f : Str} {d : D} {mx : Md} {q : List (Str × D) → List Md → Prop} : putsK (x0 :: x1 :: x2 :: x3 :: x4 :: r) 4 f d (m0 :: m1 :: m2 :: m3 :: m4 :: rs) mx q = (x4.1 = f ∧ q (x0 :: x1 :: x2 :: x3 :: (f, d) :: r) (m0 :: m1 :: m2 :: m3 :: mx :: rs)) := rfl
@[simp ↓] theorem putsK_r5 {x0 x1 x2 x3 x4 x5 : Str × D} {r : List (Str × D)} {m0 m1 m2 m3 m4 m5 : Md} {rs : List Md} {f : Str} {d : D} {mx : Md} {q : List (Str × D) → List Md → Prop} : putsK (x0 :: x1 :: x2 :: x3 :: x4 :: x5 :: r) 5 f d (m0 :: m1 :: m2 :: m3 :: m4 :: m5 :: rs) mx q = (x5.1 = f ∧ q (x0 :: x1 :: x2 :: x3 :: x4 :: (f, d) :: r) (m0 :: m1 :: m2 :: m3 :: m4 :: mx :: rs)) := rfl
@[simp ↓] theorem putsK_a0 {f : Str} {d : D} {mx : Md} {q : List (Str × D) → List Md → Prop} : putsK [] 0 f d [] mx q = ([].contains f = false ∧ q [(f, d)] [mx]) := rfl
@[simp ↓] theorem putsK_a1 {x0 : Str × D} {m0 : Md} {f : Str} {d : D} {mx : Md} {q : List (Str × D) → List Md → Prop} : putsK [x0] 1 f d [m0] mx q = ([x0.1].contains f = false ∧ q [x0, (f, d)] [m0, mx]) := rfl
@[simp ↓] theorem putsK_a2 {x0 x1 : Str × D} {m0 m1 : Md} {f : Str} {d : D} {mx : Md} {q : List (Str × D) → List Md → Prop} : putsK [x0, x1] 2 f d [m0, m1] mx q = ([x0.1, x1.1].contains f = false ∧ q [x0, x1, (f, d)] [m0, m1, mx]) := rfl
@[simp ↓] theorem putsK_a3 {x0 x1 x2 : Str × D} {m0 m1 m2 : Md} {f : Str} {d : D} {mx : Md} {q : List (Str × D) → List Md → Prop} : putsK [x0, x1, x2] 3 f d [m0, m1, m2] mx q = ([x0.1, x1.1, x2.1].contains f = false ∧ q [x0, x1, x2, (f, d)] [m0, m1, m2, mx]) := rfl
@[simp ↓] theorem putsK_a4 {x0 x1 x2 x3 : Str × D} {m0 m1 m2 m3 : Md} {f : Str} {d : D} {mx : Md} {q : List (Str × D) → List Md → Prop} : putsK [x0, x1, x2, x3] 4 f d [m0, m1, m2, m3] mx q = ([x0.1, x1.1, x2.1, x3.1].contains f = false ∧ q [x0, x1, x2, x3, (f, d)] [m0, m1, m2, m3, mx]) := rfl
@[simp ↓] theorem putsK_a5 {x0 x1 x2 x3 x4 : Str × D} {m0 m1 m2 m3 m4 : Md} {f : Str} {d : D} {mx : Md} {q : List (Str × D) → List Md → Prop} : putsK [x0, x1, x2, x3, x4] 5 f d [m0, m1, m2, m3, m4] mx q = ([x0.1, x1.1, x2.1, x3.1, x4.1].contains f = false ∧ q [x0, x1, x2, x3, x4, (f, d)] [m0, m1, m2, m3, m4, mx]) := rfl
@[simp ↓] theorem dSet_o0 {C : Addr} {x0 : Str × D} {r : List (Str × D)} {d : D} : dSet (.obj C (x0 :: r)) [0] d = .obj C ((x0.1, d) :: r) := rfl
@[simp ↓] theorem dSet_o1 {C : Addr} {x0 x1 : Str × D} {r : List (Str × D)} {d : D} : dSet (.obj C (x0 :: x1 :: r)) [1] d = .obj C (x0 :: (x1.1, d) :: r) := rfl
@[simp ↓] theorem dSet_o2 {C : Addr} {x0 x1 x2 : Str × D} {r : List (Str × D)} {d : D} : dSet (.obj C (x0 :: x1 :: x2 :: r)) [2] d = .obj C (x0 :: x1 :: (x2.1, d) :: r) := rfl
@[simp ↓] theorem dSet_o3 {C : Addr} {x0 x1 x2 x3 : Str × D} {r : List (Str × D)} {d : D} : dSet (.obj C (x0 :: x1 :: x2 :: x3 :: r)) [3] d = .obj C (x0 :: x1 :: x2 :: (x3.1, d) :: r) := rfl
@[simp ↓] theorem dSet_o4 {C : Addr} {x0 x1 x2 x3 x4 : Str × D} {r : List (Str × D)} {d : D} : dSet (.obj C (x0 :: x1 :: x2 :: x3 :: x4 :: r)) [4] d = .obj C (x0 :: x1 :: x2 :: x3 :: (x4.1, d) :: r) := rfl
@[simp ↓] theorem dSet_o5 {C : Addr} {x0 x1 x2 x3 x4 x5 : Str × D} {r : List (Str × D)} {d : D} : dSet (.obj C (x0 :: x1 :: x2 :: x3 :: x4 :: x5 :: r)) [5] d = .obj C (x0 :: x1 :: x2 :: x3 :: x4 :: (x5.1, d) :: r) := rfl
/-! loops -/
def fr (o : Option D) : Option (Md × D) := o.map fun d => (.F, d)
@[simp ↓] theorem stK_fr {o : Option D} {md : Md × D} {ρ : Rho} {q : Rho → Prop} : stK 0 md (fr o :: ρ) q = q (some md :: ρ) := by cases o <;> simp [stK, okSlot, fr]
@[simp] theorem fr_ex {d : D} : (∃ x, some (Md.F, d) = fr x) = True := by simp; exact ⟨some d, rfl⟩
@[simp] theorem fr_exf {o : Option D} : (∃ x, fr o = fr x) = True := by simp; exact ⟨o, rfl⟩
@[simp] theorem fr_exn : (∃ x, none = fr x) = True := by simp; exact ⟨none, rfl⟩
def whileK (c : DE Bool) (b : DS) (E : En) (ρ : Rho) : Prop := ∃ I : Nat → Rho → Prop, (∃ m, I m ρ) ∧ ∀ m ρ, I m ρ → c ρ ⟨fun _ k ρ' => ifK k (b { E with nx := fun ρ2 => ∃ m', m' < m ∧ I m' ρ2, ct := fun ρ2 => ∃ m', m' < m ∧ I m' ρ2, bk := E.nx } ρ') (E.nx ρ'), E.ex⟩
@[simp ↓] theorem wWhile_eq {c : DE Bool} {b : DS} {E : En} {ρ : Rho} : wWhile c b E ρ = whileK c b E ρ := by
  unfold wWhile whileK
  congr 1
  funext I
  congr 1
  refine forall_congr fun m => forall_congr fun ρ => ?_
  congr 1
  congr 1
  congr 1
  funext p k ρ'
  cases k <;> rfl
def lcK (ds : List D) (g : DG) (t : DE Bool) (we : DE (Kd × D)) (vs q : List Nat) (ρ : Rho) (Z : List D → Rho → Prop) : Prop := ∃ I : Nat → List D → Rho → Prop, I 0 [] ρ ∧
  (∀ i d acc ρ2, ds[i]? = some d → I i acc ρ2 → lcTurn g t we vs q d acc ρ2 (I (i + 1))) ∧ (∀ acc ρ2, I ds.length acc ρ2 → Z acc ρ2)
@[simp ↓] theorem wLc_eq {w : DE (List D)} {g : DG} {t : DE Bool} {we : DE (Kd × D)} {vs q : List Nat} {ρ : Rho} {P : Po (Kd × D)} : wLc w g t we vs q ρ P = w ρ ⟨fun p ds ρ1 => lcK ds g t we vs q (wipeR ρ1 vs) fun acc ρ2 => P.ok (p ++ (vs ++ q)) (.new (.L .F), .lst acc) ρ2, P.ex⟩ := rfl
@[simp ↓] theorem lcTurn_eq {g : DG} {t : DE Bool} {we : DE (Kd × D)} {vs q : List Nat} {d : D} {acc : List D} {ρ : Rho} {N : List D → Rho → Prop} : lcTurn g t we vs q d acc ρ N = g d ρ fun ρ3 => t ρ3 ⟨fun p4 b ρ4 => subL p4 q = true ∧ ifK b (we ρ4 ⟨fun p5 x ρ5 => (subL p5 q = true ∧ allFz [(x.1.frz, x.2)] = true ∧ small (acc.length + 1) = true) ∧ N (acc ++ [x.2]) (wipeR ρ5 vs), noEx⟩) (N acc (wipeR ρ4 vs)), noEx⟩ := by
  unfold lcTurn
  congr 1
  funext ρ3
  congr 2
  funext p b ρ4
  cases b <;> rfl
@[simp ↓] theorem wipeR_n {ρ : Rho} : wipeR ρ [] = ρ := rfl
@[simp ↓] theorem wipeR_c {ρ : Rho} {v : Nat} {vs : List Nat} : wipeR ρ (v :: vs) = (wipeR ρ vs).set v none := rfl
/-- every item's answer is G of it -/
theorem lc_map {ds : List D} {g : DG} {we : DE (Kd × D)} {vs q : List Nat} {ρ : Rho} {Z : List D → Rho → Prop} (G : D → D) (hz : Z (ds.map G) ρ)
    (h : ∀ d ∈ ds, ∀ acc : List D, acc.length < ds.length → lcTurn g wYes we vs q d acc ρ fun acc' ρ' => acc' = acc ++ [G d] ∧ ρ' = ρ) : lcK ds g wYes we vs q ρ Z := by
  refine ⟨fun i acc r => acc = (ds.take i).map G ∧ r = ρ, ⟨by simp, rfl⟩, fun i d acc r hd hi => ?_, fun acc r hr => ?_⟩
  · obtain ⟨rfl, rfl⟩ := hi
    have hlt := (List.getElem?_eq_some_iff.mp hd).1
    have e : (ds.take (i + 1)).map G = (ds.take i).map G ++ [G d] := by
      rw [List.take_add_one, hd]
      simp
    have z := h d (List.mem_of_getElem? hd) ((ds.take i).map G) (by simp; omega)
    rw [← e] at z
    exact z
  · obtain ⟨rfl, rfl⟩ := hr
    rw [List.take_length]
    exact hz
theorem lc_mapA {α : Type} {xs : List α} {f G : α → D} {g : DG} {we : DE (Kd × D)} {vs q : List Nat} {ρ : Rho} {Z : List D → Rho → Prop} (hz : Z (xs.map G) ρ)
    (h : ∀ x ∈ xs, ∀ acc : List D, acc.length < xs.length → lcTurn g wYes we vs q (f x) acc ρ fun acc' ρ' => acc' = acc ++ [G x] ∧ ρ' = ρ) : lcK (xs.map f) g wYes we vs q ρ Z := by
  refine ⟨fun i acc r => acc = (xs.take i).map G ∧ r = ρ, ⟨by simp, rfl⟩, fun i d acc r hd hi => ?_, fun acc r hr => ?_⟩
  · obtain ⟨rfl, rfl⟩ := hi
    rw [List.getElem?_map] at hd
    cases ex : xs[i]? with
    | none => rw [ex] at hd; cases hd
    | some x =>
      rw [ex] at hd
      cases hd
      have hlt := (List.getElem?_eq_some_iff.mp ex).1
      have e : (xs.take (i + 1)).map G = (xs.take i).map G ++ [G x] := by
        rw [List.take_add_one, ex]
        simp
      have z := h x (List.mem_of_getElem? ex) ((xs.take i).map G) (by simp; omega)
      rw [← e] at z
      exact z
  · obtain ⟨rfl, rfl⟩ := hr
    rw [List.length_map, List.take_length]
    exact hz
/-- a slot that may be stored -/
def gr : Option (Md × D) → Option (Md × D)
  | some (.P _, _) => none
  | o => o
@[simp ↓] theorem stK_gr {o : Option (Md × D)} {md : Md × D} {ρ : Rho} {q : Rho → Prop} : stK 0 md (gr o :: ρ) q = q (some md :: ρ) := by
  cases o with
  | none => simp [stK, okSlot, gr]
  | some x =>
    obtain ⟨m, d⟩ := x
    cases m <;> simp [stK, okSlot, gr]
@[simp] theorem gr_F {d : D} : (∃ x, some (Md.F, d) = gr x) = True := by simp; exact ⟨some (.F, d), rfl⟩
@[simp] theorem gr_L {d : D} {m : Md} : (∃ x, some (Md.L m, d) = gr x) = True := by simp; exact ⟨some (.L m, d), rfl⟩
@[simp] theorem gr_K {d : D} : (∃ x, some (Md.K, d) = gr x) = True := by simp; exact ⟨some (.K, d), rfl⟩
@[simp] theorem gr_O {d : D} {m : List Md} : (∃ x, some (Md.O m, d) = gr x) = True := by simp; exact ⟨some (.O m, d), rfl⟩
@[simp] theorem gr_n : (∃ x, none = gr x) = True := by simp; exact ⟨none, rfl⟩
@[simp] theorem gr_g {o : Option (Md × D)} : (∃ x, gr o = gr x) = True := by simp; exact ⟨o, rfl⟩
@[simp] theorem gr_f {o : Option D} : (∃ x, fr o = gr x) = True := by simp; exact ⟨fr o, by cases o <;> rfl⟩
/-- a loop over items: J says what stands ahead of the i-th turn -/
theorem for_inv {ds : List D} {g : DG} {b : DS} {E : En} {ρ : Rho} (J : Nat → Rho → Prop) (h0 : J 0 ρ) (he : ∀ ρ2, J ds.length ρ2 → E.nx ρ2) (hs : ∀ i d ρ2, ds[i]? = some d → J i ρ2 → g d ρ2 fun ρ3 => b { E with nx := J (i + 1), ct := J (i + 1), bk := E.nx } ρ3) : forK ds g b E ρ := ⟨J, h0, hs, he⟩
theorem map_toNat_inj : ∀ {a b : List Char}, a.map Char.toNat = b.map Char.toNat → a = b
  | [], [], _ => rfl
  | [], _ :: _, h => by simp at h
  | _ :: _, [], h => by simp at h
  | x :: a, y :: b, h => by
    simp only [List.map_cons, List.cons.injEq] at h
    rw [map_toNat_inj h.2, Char.toNat_inj.mp h.1]
@[simp] theorem str_inj {a b : String} : (Str.ofString a = Str.ofString b) ↔ a = b := by
  refine ⟨fun h => ?_, fun h => h ▸ rfl⟩
  rw [Str.ofString_eq_toList, Str.ofString_eq_toList] at h
  have h1 : a.toList.map Char.toNat = b.toList.map Char.toNat := by simpa using h
  exact String.toList_inj.mp (map_toNat_inj h1)
theorem fnok_none {P : Program} {w : World} {K : PySem.W.Frag} {mg : Str → Option Value} {base : Heap} {CX : CXT} {k : Nat} {f : Addr} {fd : FuncData} {ps : List Str} {ms ms' : List Md} {Wf : DF} (h : ∀ ds P, Wf ds P → False) : FnOk P w K mg base CX k f fd ps (spV K ms ms' Wf) := by
  refine ⟨fun vs H Q E q => ?_, fun A outer s H args us vs Q E _ _ _ _ q => ?_⟩
  · obtain ⟨_, ds, P, _, _, _, _, _, _, _, z, _⟩ := q
    exact (h ds P z).elim
  · obtain ⟨_, ds, P, _, _, _, _, _, _, _, z, _⟩ := q
    exact (h ds P z).elim
/-- the law's own start: the script comes in, True goes out -/
theorem law_start {K : PySem.W.Frag} {H : Hp} {a : Addr} {ns : List Int} {Wf : DF} (hS : SqL K H a (ns.map V.int)) (h : ∀ P : Pf, P.ok (.fz, .bl true) [.scr ns] → Wf [.scr ns] P) : spV K [.F] [.F] Wf [.ref a] H (fun v _ => v = .bl true) fun _ _ _ => False := by
  refine ⟨⟨fun i => [V.ref a][i]?, H, H, [some (.ref a)], zr [.F] [.scr ns], fun _ => []⟩, [.scr ns], ⟨fun z _ => z.2 = .bl true, fun _ _ _ => False⟩, rfl, rfl, rfl, rfl, rfl, rfl, ?_, h _ rfl, ?_, ?_⟩
  · exact {
      ext := Ex.refl _
      len := rfl
      slot := fun i m d e => by
        obtain ⟨e1, e2⟩ := zr_get.mp e
        cases i with
        | zero =>
          simp at e1 e2
          subst e1; subst e2
          exact ⟨_, rfl, .F (.scr hS)⟩
        | succ i => simp at e1
      emp := fun _ _ => rfl
      nd := fun _ => List.nodup_nil
      dj := fun _ _ _ h => nomatch h
      out := fun _ _ h => nomatch h
      pins := fun i m d e => by
        obtain ⟨e1, e2⟩ := zr_get.mp e
        cases i with
        | zero => simp at e1
        | succ i => simp at e1 }
  · rintro ⟨k, d⟩ ds' T hx _ _ _ okT _ _ v hv
    have hx : d = .bl true := hx
    subst hx
    exact hv.bl_inv okT
  · intro C fl ds' T hx
    exact hx.elim
end VL

namespace VL
open PySem PySem.Spec PyProof.Rows L2
section
variable {K : PySem.W.Frag} {W : WX} {G G' H H' H0 : Hp} {σ : L2.St} {ρ : Rho} {X : Cx} {S S0 S1 T T1 T2 U : Sta} {E : En} {Z : Ends}
/-! ### == at any depth -/
mutual
def pdOf : D → PyData
  | .lst xs => .list (pdOfs xs)
  | .tup xs => .tuple (pdOfs xs)
  | .bl a => .bool a
  | .int a => .int a
  | .str a => .str a
  | _ => .none
def pdOfs : List D → List PyData
  | [] => []
  | x :: xs => pdOf x :: pdOfs xs
end
/-- None, bools, ints, texts, lists and tuples of such, so deep at most -/
def pdK : Nat → D → Bool
  | _, .non => true
  | _, .bl _ => true
  | _, .int _ => true
  | _, .str x => PyData.strOk x
  | n + 1, .lst xs => xs.all (pdK n)
  | n + 1, .tup xs => xs.all (pdK n)
  | _, _ => false
theorem pdK_all {n : Nat} (ih : ∀ x, pdK n x = true → (pdOf x).canLay0 = true ∧ (pdOf x).depth ≤ n) : ∀ xs : List D, xs.all (pdK n) = true → PyData.canLayAll0 (pdOfs xs) = true ∧ PyData.depthAll (pdOfs xs) ≤ n
  | [], _ => by simp [pdOfs, PyData.canLayAll0, PyData.depthAll]
  | x :: xs, h => by
    simp only [List.all_cons, Bool.and_eq_true] at h
    obtain ⟨h1, h2⟩ := ih x h.1
    obtain ⟨h3, h4⟩ := pdK_all ih xs h.2
    simp only [pdOfs, PyData.canLayAll0, PyData.depthAll, Bool.and_eq_true]
    exact ⟨⟨h1, h3⟩, by omega⟩
theorem pdK_ok : ∀ {n : Nat} {x : D}, pdK n x = true → (pdOf x).canLay0 = true ∧ (pdOf x).depth ≤ n
  | 0, x, h => by
    cases x <;> simp [pdK] at h <;> simp [pdOf, PyData.canLay0, PyData.depth]
    exact h
  | n + 1, x, h => by
    cases x <;> simp only [pdK] at h <;> simp only [pdOf, PyData.canLay0, PyData.depth] <;> try simp
    · exact h
    · obtain ⟨h1, h2⟩ := pdK_all (fun x hx => pdK_ok hx) _ h
      exact ⟨h1, h2⟩
    · obtain ⟨h1, h2⟩ := pdK_all (fun x hx => pdK_ok hx) _ h
      exact ⟨h1, h2⟩
    all_goals cases h
theorem pdK_shaped {n : Nat} {x : D} (h : pdK n x = true) (hn : n ≤ 64) : SeqAt.shaped (pdOf x) = true := by
  obtain ⟨h1, h2⟩ := pdK_ok h
  unfold SeqAt.shaped
  rw [h1]
  simp
  omega
mutual
theorem Dt.dp : ∀ {v : V} {d : D} {n : Nat}, Dt K G v d → pdK n d = true → Dp K G v (pdOf d)
  | _, _, _, .non, _ => .non
  | _, _, _, .bl b, _ => .bl b
  | _, _, _, .int i, _ => .int i
  | _, _, _, .str x, _ => .str x
  | _, _, 0, .lst h a, e => by simp [pdK] at e
  | _, _, n + 1, .lst h a, e => .lst (.of h) (DtA.dp a (n := n) e)
  | _, _, 0, .tup h a, e => by simp [pdK] at e
  | _, _, n + 1, .tup h a, e => .tup h (DtA.dp a (n := n) e)
  | _, _, n, .dct h a, e => by cases n <;> simp [pdK] at e
  | _, _, n, .obj h1 h2 a, e => by cases n <;> simp [pdK] at e
  | _, _, n, .scr h, e => by cases n <;> simp [pdK] at e
  | _, _, n, .exc h, e => by cases n <;> simp [pdK] at e
  | _, _, n, .ndc h a, e => by cases n <;> simp [pdK] at e
theorem DtA.dp : ∀ {v : List V} {d : List D} {n : Nat}, DtA K G v d → d.all (pdK n) = true → DpAll K G v (pdOfs d)
  | _, _, _, .nil, _ => .nil
  | _, _, n, .cons h t, e => by
    simp only [List.all_cons, Bool.and_eq_true] at e
    exact .cons (Dt.dp h e.1) (DtA.dp t e.2)
end
/-- == of two things -/
def eqX (x y : D) : Bool := PyData.eqv (pdOf x) (pdOf y)
def eqXs (x y : List D) : Bool := PyData.eqvAll (pdOfs x) (pdOfs y)
@[simp] theorem eqX_tt {x y : List D} : eqX (.tup x) (.tup y) = eqXs x y := rfl
@[simp] theorem eqX_ll {x y : List D} : eqX (.lst x) (.lst y) = eqXs x y := rfl
@[simp] theorem eqX_ii {x y : Int} : eqX (.int x) (.int y) = decide (x = y) := by show (x == y) = _; rw [Bool.eq_iff_iff]; simp
@[simp] theorem eqX_ss {x y : Str} : eqX (.str x) (.str y) = decide (x = y) := by show (x == y) = _; rw [Bool.eq_iff_iff]; simp
@[simp] theorem eqX_bb {x y : Bool} : eqX (.bl x) (.bl y) = decide (x = y) := by show (x == y) = _; rw [Bool.eq_iff_iff]; simp
@[simp] theorem eqX_nn : eqX .non .non = true := rfl
@[simp] theorem eqX_ns {y : Str} : eqX .non (.str y) = false := rfl
@[simp] theorem eqX_sn {y : Str} : eqX (.str y) .non = false := rfl
@[simp] theorem eqX_ni {y : Int} : eqX .non (.int y) = false := rfl
@[simp] theorem eqX_in {y : Int} : eqX (.int y) .non = false := rfl
@[simp] theorem eqX_is {x : Int} {y : Str} : eqX (.int x) (.str y) = false := rfl
@[simp] theorem eqX_si {x : Int} {y : Str} : eqX (.str y) (.int x) = false := rfl
@[simp] theorem eqX_ls {x : List D} {y : Str} : eqX (.lst x) (.str y) = false := rfl
@[simp] theorem eqX_sl {x : List D} {y : Str} : eqX (.str y) (.lst x) = false := rfl
@[simp] theorem eqX_ts {x : List D} {y : Str} : eqX (.tup x) (.str y) = false := rfl
@[simp] theorem eqX_st {x : List D} {y : Str} : eqX (.str y) (.tup x) = false := rfl
@[simp] theorem eqX_tl {x y : List D} : eqX (.tup x) (.lst y) = false := rfl
@[simp] theorem eqX_lt {x y : List D} : eqX (.lst x) (.tup y) = false := rfl
@[simp] theorem eqX_tn {x : List D} : eqX (.tup x) .non = false := rfl
@[simp] theorem eqX_nt {x : List D} : eqX .non (.tup x) = false := rfl
@[simp] theorem eqX_ln {x : List D} : eqX (.lst x) .non = false := rfl
@[simp] theorem eqX_nl {x : List D} : eqX .non (.lst x) = false := rfl
@[simp] theorem eqX_ti {x : List D} {y : Int} : eqX (.tup x) (.int y) = false := rfl
@[simp] theorem eqX_it {x : List D} {y : Int} : eqX (.int y) (.tup x) = false := rfl
@[simp] theorem eqX_li {x : List D} {y : Int} : eqX (.lst x) (.int y) = false := rfl
@[simp] theorem eqX_il {x : List D} {y : Int} : eqX (.int y) (.lst x) = false := rfl
@[simp] theorem eqX_bs {x : Bool} {y : Str} : eqX (.bl x) (.str y) = false := rfl
@[simp] theorem eqX_sb {x : Bool} {y : Str} : eqX (.str y) (.bl x) = false := rfl
@[simp] theorem eqXs_nn : eqXs [] [] = true := rfl
@[simp] theorem eqXs_nc {y : D} {ys : List D} : eqXs [] (y :: ys) = false := rfl
@[simp] theorem eqXs_cn {y : D} {ys : List D} : eqXs (y :: ys) [] = false := rfl
@[simp] theorem eqXs_cc {x y : D} {xs ys : List D} : eqXs (x :: xs) (y :: ys) = (eqX x y && eqXs xs ys) := by
  unfold eqXs
  rw [pdOfs, pdOfs, PyData.eqvAll]
  rfl
def oEqX : O2 := fun x y q => (pdK 60 x.2 = true ∧ pdK 60 y.2 = true) ∧ q (.fz, .bl (eqX x.2 y.2))
def oNeX : O2 := fun x y q => (pdK 60 x.2 = true ∧ pdK 60 y.2 = true) ∧ q (.fz, .bl (!eqX x.2 y.2))
theorem ok_EqX : OkR2 K (rEqD K) oEqX := fun S0 S x y dx dy Q q ok hx hy h k =>
  ⟨pdOf dx.2, pdOf dy.2, (hx.dt ok).dp h.1.1, (hy.dt ok).dp h.1.2, pdK_shaped h.1.1 (by decide), pdK_shaped h.1.2 (by decide), stay ok k h.2 (v := .bl _) (.bl _)⟩
@[simp ↓] theorem oEqX_eq {x y : Kd × D} {q : Kd × D → Prop} : oEqX x y q = ((pdK 60 x.2 = true ∧ pdK 60 y.2 = true) ∧ q (.fz, .bl (eqX x.2 y.2))) := rfl
@[simp ↓] theorem oNeX_eq {x y : Kd × D} {q : Kd × D → Prop} : oNeX x y q = ((pdK 60 x.2 = true ∧ pdK 60 y.2 = true) ∧ q (.fz, .bl (!eqX x.2 y.2))) := rfl
theorem hu64 {A : Around} {k : Nat} (hr : Room k A) : A.units + 64 < cLine := by have := hr.un; omega
@[simp] theorem pdK_n {n : Nat} : pdK n .non = true := by cases n <;> rfl
@[simp] theorem pdK_b {n : Nat} {b : Bool} : pdK n (.bl b) = true := by cases n <;> rfl
@[simp] theorem pdK_i {n : Nat} {i : Int} : pdK n (.int i) = true := by cases n <;> rfl
@[simp] theorem pdK_s {n : Nat} {s : Str} : pdK n (.str s) = PyData.strOk s := by cases n <;> rfl
@[simp] theorem pdK_l {n : Nat} {xs : List D} : pdK (n + 1) (.lst xs) = xs.all (pdK n) := rfl
@[simp] theorem pdK_t {n : Nat} {xs : List D} : pdK (n + 1) (.tup xs) = xs.all (pdK n) := rfl
@[simp] theorem strOk_lit {s : String} : PyData.strOk (Str.ofString s) = true := by
  rw [Str.ofString_eq_toList]
  unfold PyData.strOk
  simp
  intro c hc
  rcases c.valid with h | h
  · exact Nat.lt_trans h (by decide)
  · exact h.2
/-! ### x is True, x is not False -/
def blK2 (x y : D) (q : Bool → Bool → Prop) : Prop := match x, y with
  | .bl a, .bl b => q a b
  | _, _ => False
@[simp ↓] theorem blK2_b {a b : Bool} {q : Bool → Bool → Prop} : blK2 (.bl a) (.bl b) q = q a b := rfl
def oIsB : O2 := fun x y q => blK2 x.2 y.2 fun a b => q (.fz, .bl (decide (a = b)))
def oNotB : O2 := fun x y q => blK2 x.2 y.2 fun a b => q (.fz, .bl (!decide (a = b)))
@[simp ↓] theorem oIsB_eq {x y : Kd × D} {q : Kd × D → Prop} : oIsB x y q = blK2 x.2 y.2 fun a b => q (.fz, .bl (decide (a = b))) := rfl
@[simp ↓] theorem oNotB_eq {x y : Kd × D} {q : Kd × D → Prop} : oNotB x y q = blK2 x.2 y.2 fun a b => q (.fz, .bl (!decide (a = b))) := rfl
/-! ### lists of owned things -/
/-- [], its items to be held as m -/
def wEmp (m : Md) : DE (Kd × D) := fun ρ P => P.ok [] (.new (.L m), .lst []) ρ
theorem te_emp {m : Md} {Q : VK} (h : te K W (wEmp m) σ H Q) : tLst tNil σ H Q := by
  obtain ⟨S, P, rfl, rfl, ok, w, k, ex⟩ := h
  refine ⟨Nat.zero_le _, fun p hp => ?_⟩
  have g : Grow S.G S.H S.G (upd S.H p (.lst [])) := Grow.own ok.ext hp
  exact k _ _ (S.at S.G (upd S.H p (.lst []))) w rfl (Sta.grow ok g) g.to g.tch _ ⟨[p], .L upd_same .nil, by simp, fun a ha => by
    have e : a = p := by simpa using ha
    subst e
    exact ⟨ok.ext.free hp, fun z => ok.own z hp, .inr hp⟩⟩
theorem q_emp {m : Md} {pos : Pos} : PE X (.List [] pos) (te X.K W (wEmp m)) := PE.imp (pe_lst pa_nil) fun _ _ _ h => te_emp h
@[simp ↓] theorem wEmp_eq {m : Md} {P : Po (Kd × D)} : wEmp m ρ P = P.ok [] (.new (.L m), .lst []) ρ := rfl
/-- xs.append(e): e is nobody's else -/
def appK (r x : Kd × D) (q : Nat → List Nat → D → Prop) : Prop := match r, x with
  | (.bor i p (.L m), .lst ds), (.new m', d) => m' = m ∧ small (ds.length + 1) = true ∧ q i p (.lst (ds ++ [d]))
  | _, _ => False
theorem appK_of {r x : Kd × D} {q : Nat → List Nat → D → Prop} (h : appK r x q) : ∃ i p m ds d, r = (.bor i p (.L m), .lst ds) ∧ x = (.new m, d) ∧ small (ds.length + 1) = true ∧ q i p (.lst (ds ++ [d])) := by
  unfold appK at h
  split at h
  · obtain ⟨rfl, h⟩ := h
    exact ⟨_, _, _, _, _, rfl, rfl, h⟩
  · exact h.elim
@[simp ↓] theorem appK_eq {i : Nat} {p : List Nat} {m m' : Md} {ds : List D} {d : D} {q : Nat → List Nat → D → Prop} : appK (.bor i p (.L m), .lst ds) (.new m', d) q = (m' = m ∧ small (ds.length + 1) = true ∧ q i p (.lst (ds ++ [d]))) := rfl
def wApp (wr we : DE (Kd × D)) : DE (Kd × D) := fun ρ P => wr ρ ⟨fun p1 x ρ1 => isL x.2 = true ∧ we ρ1 ⟨fun p2 y ρ2 => hold x.1 p2 = true ∧ appK x y fun i p d' => P.ok (p1 ++ (p2 ++ [i])) (.fz, .non) (setAt ρ2 i p d'), P.ex⟩, P.ex⟩
@[simp ↓] theorem wApp_eq {wr we : DE (Kd × D)} {P : Po (Kd × D)} : wApp wr we ρ P = wr ρ ⟨fun p1 x ρ1 => isL x.2 = true ∧ we ρ1 ⟨fun p2 y ρ2 => hold x.1 p2 = true ∧ appK x y fun i p d' => P.ok (p1 ++ (p2 ++ [i])) (.fz, .non) (setAt ρ2 i p d'), P.ex⟩, P.ex⟩ := rfl
theorem RA.snoc {m : Md} : ∀ {vs : List V} {ds : List D} {fp : List Addr} {v : V} {d : D} {fq : List Addr}, RA K G H m vs ds fp → R K G H m v d fq → RA K G H m (vs ++ [v]) (ds ++ [d]) (fp ++ fq)
  | _, _, _, _, _, fq, .nil, r => by
    have := RA.cons r (RA.nil (K := K) (G := G) (H := H) (m := m))
    rw [List.append_nil] at this
    exact this
  | _, _, _, _, _, _, .cons h t, r => by
    rw [List.append_assoc]
    exact .cons h (RA.snoc t r)
/-- a thing in a slot is changed, and gets new things of its own -/
theorem mut_state2 {i : Nat} {p : List Nat} {m : Md} {a : Addr} {o' : HO} {d d' : D} {fq fx fq' : List Addr} (ok : T.ok K) (l : Lent K T i p m (.ref a) d fq) (ha : a ∈ fq) (nx : ∀ b ∈ fx, T.G b = none ∧ ¬ Ow T.f b ∧ Nw S b) (st : S.to T) (r : R K T.G (upd T.H a o') m (.ref a) d' fq') (n : fq'.Nodup) (s : ∀ b ∈ fq', b ∈ fq ∨ b ∈ fx) :
    ∃ f2 : Own, Sx K T.pin T.G (upd T.H a o') T.σ (setAt T.ρ i p d') f2 ∧ S.to ⟨T.pin, T.G, upd T.H a o', T.σ, setAt T.ρ i p d', f2⟩ ∧ Tch [i] T ⟨T.pin, T.G, upd T.H a o', T.σ, setAt T.ρ i p d', f2⟩ := by
  obtain ⟨m0, d0, v0, h1, h2, hb⟩ := l.back
  have hai : a ∈ T.f i := l.sub a ha
  obtain ⟨fr, r2, n2, s2⟩ := hb T.G (upd T.H a o') d' fq' (Ex.refl _) (fun b _ hn => upd_ne fun z : b = a => hn (by rw [z]; exact ha)) r n (fun b hb => (s b hb).imp_right fun z c => (nx b z).2.1 ⟨i, c⟩)
  have frs : ∀ b ∈ fr, b ∈ T.f i ∨ b ∈ fx := fun b hb => by
    rcases s2 b hb with q | q
    · exact .inl q.1
    · exact (s b q).imp_left (l.sub b)
  have ga : T.G a = none := ok.out i a hai
  have oth : ∀ j, j ≠ i → ∀ b ∈ T.f j, upd T.H a o' b = T.H b := fun j c b hb => upd_ne fun z : b = a => c (ok.dj j i b hb (by rw [z]; exact hai))
  refine ⟨T.f.set i fr, ?_, ⟨⟨st.stp.gext, fun b o ho hn => ?_, st.stp.gold, fun b ⟨j, hj⟩ => ?_, fun b hb => ?_⟩, st.pin⟩, fun j hj => ?_⟩
  · exact {
      ext := fun b u e => by rw [upd_ne (ne_of_none e ga)]; exact ok.ext b u e
      len := by rw [setAt_len]; exact ok.len
      slot := fun j m' d1 e => by
        by_cases c : j = i
        · subst c
          rw [setAt_eq h1] at e; cases e
          exact ⟨v0, h2, by rw [Own.set_same]; exact r2⟩
        · rw [setAt_ne c] at e
          obtain ⟨u, g1, g2⟩ := ok.slot j m' d1 e
          exact ⟨u, g1, by rw [Own.set_ne c]; exact g2.keep (Ex.refl _) fun b hb o ho => by rw [oth j c b hb]; exact ho⟩
      emp := fun j e => by
        by_cases c : j = i
        · subst c; exact absurd (setAt_eq h1) (e _ _)
        · rw [Own.set_ne c]; exact ok.emp j fun m' d1 q => e m' d1 (by rw [setAt_ne c]; exact q)
      nd := fun j => by
        by_cases c : j = i
        · subst c; rw [Own.set_same]; exact n2
        · rw [Own.set_ne c]; exact ok.nd j
      dj := fun j j' b h h' => by
        by_cases c : j = i
        · subst c
          rw [Own.set_same] at h
          by_cases c' : j' = j
          · exact c'.symm
          · rw [Own.set_ne c'] at h'
            rcases frs b h with q | q
            · exact ok.dj _ _ b q h'
            · exact absurd ⟨j', h'⟩ (nx b q).2.1
        · rw [Own.set_ne c] at h
          by_cases c' : j' = i
          · subst c'
            rw [Own.set_same] at h'
            rcases frs b h' with q | q
            · exact ok.dj _ _ b h q
            · exact absurd ⟨j, h⟩ (nx b q).2.1
          · rw [Own.set_ne c'] at h'
            exact ok.dj _ _ b h h'
      out := fun j b h => by
        by_cases c : j = i
        · subst c; rw [Own.set_same] at h
          rcases frs b h with q | q
          · exact ok.out _ b q
          · exact (nx b q).1
        · rw [Own.set_ne c] at h; exact ok.out j b h
      pins := fun j m' d1 e => by
        by_cases c : j = i
        · subst c
          rw [setAt_eq h1] at e; cases e
          exact ok.pins j _ _ h1
        · rw [setAt_ne c] at e; exact ok.pins j m' d1 e }
  · show upd T.H a o' b = _
    have c : b ≠ a := fun z => by
      rcases st.stp.fnew a ⟨i, hai⟩ with q | q
      · exact hn (by rw [z]; exact q)
      · rw [z, q] at ho; cases ho
    rw [upd_ne c]; exact st.stp.keep b o ho hn
  · by_cases c : j = i
    · subst c
      have hj' : b ∈ T.f.set j fr j := hj
      rw [Own.set_same] at hj'
      rcases frs b hj' with q | q
      · exact st.stp.fnew b ⟨j, q⟩
      · exact (nx b q).2.2
    · have hj' : b ∈ T.f.set i fr j := hj
      rw [Own.set_ne c] at hj'; exact st.stp.fnew b ⟨j, hj'⟩
  · show upd T.H a o' b ≠ none
    by_cases c : b = a
    · subst c; rw [upd_same]; exact fun z => nomatch z
    · rw [upd_ne c]; exact st.stp.trk b hb
  · have c : j ≠ i := fun z => hj (by rw [z]; exact List.mem_cons_self)
    exact ⟨setAt_ne c, Own.set_ne c, fun b hb o ho => by
      show upd T.H a o' b = _
      rw [oth j c b hb]; exact ho⟩
theorem te_app {wr we : DE (Kd × D)} {Q : VK} (h : te K W (wApp wr we) σ H Q) : tBM K "list" rAppend (te K W wr) (tCons (te K W we) tNil) σ H Q := by
  obtain ⟨S, P, rfl, rfl, ok, w, k, ex⟩ := h
  refine ⟨S, _, rfl, rfl, ok, w, fun p1 x S1 w1 e1 ok1 t1 pr1 v1 h1 => ?_, ex⟩
  have hty : tyV K "list" v1 S1.H := by
    obtain ⟨kd, d⟩ := x
    have q := h1.dt ok1
    cases d with
    | lst ds =>
      cases q with
      | lst hl ha => exact .inl ⟨rfl, _, .of hl⟩
    | _ => cases w1.1
  refine ⟨hty, S1, _, e1, rfl, ok1, w1.2, fun p2 y S2 w2 e2 ok2 t2 pr2 u h2 => ?_, fun C fl T e es okT tT dd hd => ex C fl T e es okT (t1.trans tT) dd hd⟩
  obtain ⟨i, p, m, ds, d, rfl, rfl, sm, qz⟩ := appK_of w2.2
  obtain ⟨fq, l⟩ := ((h1.stp ok1 t2 (e2.trans e1.symm) pr2 w2.1).from (Sta.refl S)).lent ok2
  obtain ⟨fx, rx, nx, kx⟩ := h2
  have r := l.r
  cases r with
  | L ha t =>
    rename_i a xs fp
    refine ⟨a, xs, u, rfl, rfl, ha, by rw [t.len]; exact small_lt sm, ?_⟩
    have hn := List.nodup_cons.mp l.nd
    have aG : S2.G a = none := ok2.out i _ (l.sub _ List.mem_cons_self)
    have fpi : ∀ b ∈ fp, b ∈ S2.f i := fun b hb => l.sub b (List.mem_cons_of_mem _ hb)
    have nea : ∀ b ∈ fp, b ≠ a := fun b hb z => hn.1 (by rw [← z]; exact hb)
    have nex : ∀ b ∈ fx, b ≠ a := fun b hb z => (kx b hb).2.1 ⟨i, by rw [z]; exact l.sub _ List.mem_cons_self⟩
    obtain ⟨f2, z1, z2, z3⟩ := mut_state2 (S := S) (o' := .lst (xs ++ [u])) (d' := .lst (ds ++ [d])) (fx := fx) (fq' := a :: (fp ++ fx)) ok2 l List.mem_cons_self
      (fun b hb => ⟨(kx b hb).1, (kx b hb).2.1, (kx b hb).2.2.of t1⟩) (t1.trans t2)
      (.L upd_same (RA.snoc (t.keep (Ex.refl _) fun b hb o ho => by rw [upd_ne (nea b hb)]; exact ho) (rx.keep (Ex.refl _) fun b hb o ho => by rw [upd_ne (nex b hb)]; exact ho)))
      (List.nodup_cons.mpr ⟨fun z => (List.mem_append.mp z).elim hn.1 fun q => nex a q rfl, List.nodup_append.mpr ⟨hn.2, nx, fun b hb c hc e => (kx c hc).2.1 ⟨i, by rw [← e]; exact fpi b hb⟩⟩⟩)
      (fun b hb => (List.mem_cons.mp hb).elim (fun z => .inl (by rw [z]; exact List.mem_cons_self)) fun z => (List.mem_append.mp z).imp (fun z => List.mem_cons_of_mem _ z) id)
    exact k (p1 ++ (p2 ++ [i])) (.fz, .non) ⟨S2.pin, S2.G, upd S2.H a (.lst (xs ++ [u])), S2.σ, setAt S2.ρ i p (.lst (ds ++ [d])), f2⟩ qz e2 z1 z2 (pr1.trans (pr2.trans z3)) .non .non
theorem q_app {o e : Expr} {wr we : DE (Kd × D)} {apos cpos : Pos} (ho : PE X o (te X.K W wr)) (he : PE X e (te X.K W we))
    (hbase : attributeBase o "append" X.env (eval o X.env) = eval o X.env := by rfl)
    (hfew : ((backTo cpos (starEach [e] X.env)).all (fun x => !x.1) && (backToKw cpos (keywordEach [] X.env)).all (fun x => x.1.isSome) && decide (([e] : List Expr).length + ([] : List Keyword).length + (if ([] : List Keyword).isEmpty then 0 else 1) < 30)) = true := by rfl)
    (hline : (apos.endLine == cpos.line) = true := by rfl) (hs : starEach [e] X.env = (false, eval e X.env) :: starEach [] X.env := by rfl) (hplain : (backTo cpos (starEach [] X.env)).any (·.1) = false := by rfl) :
    PE X (.Call (.Attribute o "append" apos) [e] [] cpos) (te X.K W (wApp wr we)) := PE.imp (pe_bm PySem.F.plainAttrs_list PySem.F.slot_list_append PySem.F.type_list_append mt_append ho (pa_cons he pa_nil hs) hbase hfew hline hs hplain) fun _ _ _ h => te_app h
theorem optK_all {α : Type} {ds : List α} {i : Int} {q : α → Prop} (h1 : 0 ≤ i) (h2 : i < ds.length) (h : ∀ d ∈ ds, q d) : optK (L2.atI ds i) q := by
  have hlt : i.toNat < ds.length := by omega
  have e : L2.atI ds i = some ds[i.toNat] := by
    unfold L2.atI
    simp [ixN, h1, h2, hlt]
  rw [e]
  exact h _ (List.getElem_mem hlt)
@[simp ↓] theorem dSet_l {ds : List D} {j : Nat} {x : D} : dSet (.lst ds) [j] x = .lst (ds.set j x) := by
  unfold dSet dKid
  cases e : ds[j]? with
  | none =>
    simp only [e]
    rw [List.set_eq_of_length_le (by simpa using e)]
  | some y =>
    simp only [e]
    unfold dSet setKid
    rfl
@[simp ↓] theorem wPar_eq {i j : Nat} {wa : DE (List (Kd × D))} {E : En} : wPar i j wa E ρ = wa ρ ⟨fun _ xs ρ' => par2 i j xs ρ' E.nx, E.ex⟩ := rfl
@[simp ↓] theorem par2_eq {i j : Nat} {d e : D} {q : Rho → Prop} : par2 i j [(.fz, d), (.fz, e)] ρ q = stK i (.F, d) ρ fun ρ => stK j (.F, e) ρ q := by
  unfold par2 stK
  rfl
@[simp ↓] theorem oStr_i {k : Kd} {i : Int} {q : Kd × D → Prop} : oStr [(k, .int i)] q = (i.natAbs.log2 < 1920 ∧ q (.fz, .str (toString i))) := rfl
theorem intsOf_map {α : Type} (f : α → Int) : ∀ xs : List α, intsOf (xs.map fun x => D.int (f x)) = some (xs.map f)
  | [] => rfl
  | x :: xs => by simp [intsOf, intsOf_map f xs]
theorem blsOf_map {α : Type} (f : α → Bool) : ∀ l : List α, blsOf (l.map fun z => D.bl (f z)) = some (l.map f)
  | [] => rfl
  | x :: l => by simp [blsOf, blsOf_map f l]
end
end VL

namespace VLN
open PySem Sem Builtin Builtin.Str
open AutoSeq1 (wpAny_loadPart')
section
variable {prog : Program} {w : World} {A : Around} {E : Value → Shared → Prop} {s : Shared}
end
end VLN
namespace VLN2
open PySem PySem.Spec PyProof.Rows L2
def IteT (K : PySem.W.Frag) (a : Addr) : It :=
  ⟨fun i H => ∃ (xs : List V) (x : V), SqT K H a xs ∧ xs[i]? = some x, fun i H v H' => ∃ T x, v = .ref T ∧ H T = none ∧ H' = upd H T (.tup [.int (i : Nat), x]) ∧ ∀ xs, SqT K H a xs → xs[i]? = some x, fun i H => ∃ xs : List V, SqT K H a xs ∧ xs.length ≤ i⟩
def iEnumT (K : PySem.W.Frag) (ta : TA) : TI := fun σ H R => ta σ H fun vs H1 => ∃ a xs, vs = [.ref a] ∧ SqT K H1 a xs ∧ R (IteT K a) H1
end VLN2
namespace VL
open PySem PySem.Spec PyProof.Rows L2
section
variable {K : PySem.W.Frag} {W : WX} {G G' H H' H0 : Hp} {σ : L2.St} {ρ : Rho} {X : Cx} {S S0 S1 T T1 T2 U : Sta} {E : En} {Z : Ends}
def isT1 (xs : List (Kd × D)) (q : List D → Prop) : Prop := match xs with
  | [(.fz, .tup ds)] => q ds
  | _ => False
@[simp ↓] theorem isT1_eq {ds : List D} {q : List D → Prop} : isT1 [(.fz, .tup ds)] q = q ds := rfl
/-- enumerate(tuple) -/
def wEnumT (wa : DE (List (Kd × D))) : DE (List D) := fun ρ P => wa ρ ⟨fun p xs ρ' => isT1 xs fun ds => P.ok p (enumD ds) ρ', P.ex⟩
@[simp ↓] theorem wEnumT_eq {wa : DE (List (Kd × D))} {P : Po (List D)} : wEnumT wa ρ P = wa ρ ⟨fun p xs ρ' => isT1 xs fun ds => P.ok p (enumD ds) ρ', P.ex⟩ := rfl
/-- xs.insert(i, y) -/
def mIns : OM := fun ds es q => match es with
  | [.int i, x] => small (ds.length + 1) = true ∧ (0 ≤ i ∧ i < 1000000000) ∧ q (ds.take i.toNat ++ [x] ++ ds.drop i.toNat) .non
  | _ => False
@[simp ↓] theorem mIns_eq {ds : List D} {i : Int} {x : D} {q : List D → D → Prop} : mIns ds [.int i, x] q = (small (ds.length + 1) = true ∧ (0 ≤ i ∧ i < 1000000000) ∧ q (ds.take i.toNat ++ [x] ++ ds.drop i.toNat) .non) := rfl
abbrev rIns : V → List V → Hp → VK → Prop := fun x vs H Q => ∃ (l : Addr) (xs : List V) (i : Int) (y : V), x = .ref l ∧ vs = [.int i, y] ∧ H l = some (.lst xs) ∧ xs.length < sizeLine ∧ 0 ≤ i ∧ i < 2 ^ 63 ∧
    Q .non (upd H l (.lst (xs.take i.toNat ++ [y] ++ xs.drop i.toNat)))
end
end VL

namespace VL
open PySem PySem.Spec PyProof.Rows L2
section
variable {K : PySem.W.Frag} {W : WX} {G G' H H' H0 : Hp} {σ : L2.St} {ρ : Rho} {f f' : Own} {pin : Nat → Option V} {X : Cx} {S S0 S1 T T1 T2 U : Sta} {E : En} {Z : Ends}
/-! ### comprehensions of owned things -/
def lcTurnO (m : Md) (g : DG) (t : DE Bool) (we : DE (Kd × D)) (vs q : List Nat) (d : D) (acc : List D) (ρ : Rho) (N : List D → Rho → Prop) : Prop :=
  g d ρ fun ρ3 => t ρ3 ⟨fun p4 b ρ4 => subL p4 q = true ∧ match b with
    | true => we ρ4 ⟨fun p5 x ρ5 => (subL p5 q = true ∧ x.1 = .new m ∧ small (acc.length + 1) = true) ∧ N (acc ++ [x.2]) (wipeR ρ5 vs), noEx⟩
    | false => N acc (wipeR ρ4 vs), noEx⟩
def wLcO (m : Md) (w : DE (List D)) (g : DG) (t : DE Bool) (we : DE (Kd × D)) (vs q : List Nat) : DE (Kd × D) := fun ρ P => w ρ ⟨fun p ds ρ1 => ∃ I : Nat → List D → Rho → Prop, I 0 [] (wipeR ρ1 vs) ∧
  (∀ i d acc ρ2, ds[i]? = some d → I i acc ρ2 → lcTurnO m g t we vs q d acc ρ2 (I (i + 1))) ∧ (∀ acc ρ2, I ds.length acc ρ2 → P.ok (p ++ (vs ++ q)) (.new (.L m), .lst acc) ρ2), P.ex⟩
section
variable {elt tg iter : Expr} {ifs : List Expr} {scope : Scope} {own : List (Str × Nat)} {pos : Pos} {wi : DE (List D)} {g : DG} {t : DE Bool} {we : DE (Kd × D)}
end
def lcKO (m : Md) (ds : List D) (g : DG) (t : DE Bool) (we : DE (Kd × D)) (vs q : List Nat) (ρ : Rho) (Z : List D → Rho → Prop) : Prop := ∃ I : Nat → List D → Rho → Prop, I 0 [] ρ ∧
  (∀ i d acc ρ2, ds[i]? = some d → I i acc ρ2 → lcTurnO m g t we vs q d acc ρ2 (I (i + 1))) ∧ (∀ acc ρ2, I ds.length acc ρ2 → Z acc ρ2)
@[simp ↓] theorem wLcO_eq {m : Md} {w : DE (List D)} {g : DG} {t : DE Bool} {we : DE (Kd × D)} {vs q : List Nat} {ρ : Rho} {P : Po (Kd × D)} : wLcO m w g t we vs q ρ P = w ρ ⟨fun p ds ρ1 => lcKO m ds g t we vs q (wipeR ρ1 vs) fun acc ρ2 => P.ok (p ++ (vs ++ q)) (.new (.L m), .lst acc) ρ2, P.ex⟩ := rfl
@[simp ↓] theorem lcTurnO_eq {m : Md} {g : DG} {t : DE Bool} {we : DE (Kd × D)} {vs q : List Nat} {d : D} {acc : List D} {ρ : Rho} {N : List D → Rho → Prop} : lcTurnO m g t we vs q d acc ρ N = g d ρ fun ρ3 => t ρ3 ⟨fun p4 b ρ4 => subL p4 q = true ∧ ifK b (we ρ4 ⟨fun p5 x ρ5 => (subL p5 q = true ∧ x.1 = .new m ∧ small (acc.length + 1) = true) ∧ N (acc ++ [x.2]) (wipeR ρ5 vs), noEx⟩) (N acc (wipeR ρ4 vs)), noEx⟩ := by
  unfold lcTurnO
  congr 1
  funext ρ3
  congr 2
  funext p b ρ4
  cases b <;> rfl
end
end VL

/-! try: .. except C as e: y = e -- and y is asked later -/
namespace VLX
open PySem PySem.Spec PyProof.Rows L2
section
variable {X : Cx} {pins : List (Addr × Obj)} {σ : L2.St} {H : Hp} {s : Shared}
end
/-- what is wished of an exception of the body: of the class c, it is kept in slot j, and the code goes on -/
def wKeep (K : PySem.W.Frag) (c : Value) (i j : Nat) (Wout : WX) (D : Ends) : WX := fun cls d σ H =>
  ∃ b, PySem.W.exmOne K cls c = some b ∧ (b = true → d = none ∧ ∀ a, H a = none → D.nx (((σ.set i (some (.ref a))).set j (some (.ref a))).set i none) (upd H a (VL.ExK cls a))) ∧ (b = false → Wout cls d σ H)
/-- y = e, e in slot i -/
def tCopy (i j : Nat) : TS := fun D σ H => ∃ v, σ[i]? = some (some v) ∧ D.nx (σ.set j (some v)) H
section
variable {X : Cx} {x n : Str} {c : Value} {i j : Nat} {body suite : List Stmt} {b₀ : Stmt} {np pos pos' : Pos} {tb : WX → TS} {Wout : WX}
end
end VLX
namespace VLX
open PySem PySem.Spec PyProof.Rows L2
/-- isinstance of a kept exception -/
def rIsK (K : PySem.W.Frag) : List V → Hp → VK → Prop := fun xs H Q => ∃ (a D : Addr) (c : V) (cv : Value) (b : Bool), xs = [.ref a, c] ∧ H a = some (VL.ExK (.ref D) a) ∧ ExcC K D ∧ (∀ u, RelV c u → u = cv) ∧ PySem.W.kitOne K (.ref D) cv = some b ∧ Q (.bl b) H
end VLX
namespace VL
open PySem PySem.Spec PyProof.Rows L2
section
variable {K : PySem.W.Frag} {W : WX} {G G' H H' H0 : Hp} {σ : L2.St} {ρ : Rho} {f f' : Own} {pin : Nat → Option V} {X : Cx} {S S0 S1 T T1 T2 U : Sta} {E : En} {Z : Ends}
/-- isinstance(x, c), x an exception of the class C -/
def wIsK (C : Addr) (b : Bool) (we : DE (Kd × D)) : DE (Kd × D) := fun ρ P => we ρ ⟨fun p x ρ' => x = (.fz, .exc C) ∧ P.ok p (.fz, .bl b) ρ', P.ex⟩
@[simp ↓] theorem wIsK_eq {C : Addr} {b : Bool} {we : DE (Kd × D)} {P : Po (Kd × D)} : wIsK C b we ρ P = we ρ ⟨fun p x ρ' => x = (.fz, .exc C) ∧ P.ok p (.fz, .bl b) ρ', P.ex⟩ := rfl
/-- raise C('..') -/
def wRaise (C : Addr) : DS := fun E ρ => E.ex C [] ρ
@[simp ↓] theorem wRaise_eq {C : Addr} : wRaise C E ρ = E.ex C [] ρ := rfl
/-- what is asked of a class of exceptions that is raised -/
structure RsC (K : PySem.W.Frag) (C : Addr) : Prop where
  ex : PySem.W.excIn K C [.type "ValueError", .type "Exception", .type "BaseException", .type "object"] "ValueError.__new__" = true
  sb : PySem.W.subIn K (.ref C) (.type "BaseException") = some true
  ty : PySem.W.typeIn K (.ref C) = some (.type "type")
  kp : PySem.W.keepIn K (.ref C) = true
theorem q_raise {C : Addr} {x m : Str} {j : Nat} {p p2 pos pos' : Pos} (h : RsC X.K C) (hm : X.mg x = some (.ref C)) (hc : X.calm = true) (tk : Takes X W) (hg : Gl X x := by rfl) (hdb : (x == ("__debug__" : Str)) = false := by decide) :
    PS X (.Raise (some (.Call (.Name x p) [.Constant (.str m) j p2] [] pos)) none pos') (ts X.K W (wRaise C)) :=
  PS.imp (ps_raise hc tk (pmk_own PySem.F.excBase_ValueError h.ex hm h.kp (raises_own h.sb h.ty) hg hdb)) fun _ _ _ h => by
    obtain ⟨S, E, rfl, rfl, ok, w, l⟩ := h
    exact l.ex C [] S w ok (Sta.refl S) none (.inl ⟨rfl, rfl⟩)
/-- try: b / except .. as e: y = e -/
def wTryK (i j : Nat) (C : Addr) (b : DS) : DS := fun E ρ => b { E with ex := fun C' fl ρ' => (C' = C ∧ fl = []) ∧ ρ'[i]? = some none ∧ okSlot ρ' j = true ∧ E.nx (ρ'.set j (some (.F, .exc C))) } ρ
@[simp ↓] theorem wTryK_eq {i j : Nat} {C : Addr} {b : DS} : wTryK i j C b E ρ = b { E with ex := fun C' fl ρ' => (C' = C ∧ fl = []) ∧ ρ'[i]? = some none ∧ okSlot ρ' j = true ∧ E.nx (ρ'.set j (some (.F, .exc C))) } ρ := rfl
end
end VL

/-! zip of a tuple and a list, either way round -/
namespace VL
open PySem PySem.Spec PyProof.Rows L2 RZ
/-- a side's iterator: of a tuple (true) or of a list -/
def Sd (h : Heap) (j l : Addr) (n : Nat) : Bool → Prop
  | true => h.IsTupleIter j l n
  | false => h.IsListIter j l n
def Sq (h : Heap) (l : Addr) (xs : Array Value) : Bool → Prop
  | true => h.IsTuple l xs
  | false => h.IsList l xs
theorem Sd.ext {h g : Heap} {j c l : Addr} {n : Nat} {b : Bool} (x : Sd h j l n b) (e : Heap.ExtBut c h g) (d : j ≠ c) : Sd g j l n b := by
  cases b
  · exact Heap.IsListIter.extBut x e d
  · exact Heap.IsTupleIter.extBut x e d
theorem Sq.ext {h g : Heap} {c l : Addr} {xs : Array Value} {b : Bool} (x : Sq h l xs b) (e : Heap.ExtBut c h g) (d : l ≠ c) : Sq g l xs b := by
  cases b
  · exact Heap.IsList.extBut x e d
  · exact Heap.IsTuple.extBut x e d
theorem Sd.has {h : Heap} {j l : Addr} {n : Nat} {b : Bool} (x : Sd h j l n b) : ∃ o, h.get? j = some o ∧ ∀ v, o.data ≠ .cell v := by
  cases b
  · obtain ⟨o, e, _, d⟩ := x
    exact ⟨o, e, fun v q => by rw [d] at q; cases q⟩
  · obtain ⟨o, e, _, d⟩ := x
    exact ⟨o, e, fun v q => by rw [d] at q; cases q⟩
section
variable {prog : Program} {w : World} {A : Around} {E : Value → Shared → Prop} {s : Shared}
theorem Sd.next {j l : Addr} {n : Nat} {xs : Array Value} {b : Bool} {x : Value} {Q : Value → Shared → Prop} (hj : Sd s.heap j l n b) (hl : Sq s.heap l xs b) (hx : xs[n]? = some x)
    (k : ∀ g, Sd g j l (n + 1) b → Heap.SameBut j s.heap g → Q x { s with heap := g }) : wpAny (model prog w) A (Builtin.SmallTypes.nextOf (.ref j)) Q E s := by
  cases b
  · exact wpAny_nextOf_list_item hj hl hx k
  · exact nextOf_tuple_item hj hl hx k
theorem Sd.stop {j l : Addr} {n : Nat} {xs : Array Value} {b : Bool} {Q : Value → Shared → Prop} (hh : A.handled = none) (hj : Sd s.heap j l n b) (hl : Sq s.heap l xs b) (hx : xs[n]? = none)
    (k : ∀ g e, Heap.ExtBut j s.heap g → (∃ o, g.get? e = some o ∧ o.cls = .type "StopIteration") → E (.ref e) { s with heap := g }) : wpAny (model prog w) A (Builtin.SmallTypes.nextOf (.ref j)) Q E s := by
  cases b
  · exact wpAny_nextOf_list_end hh hj hl hx k
  · exact nextOf_tuple_end hh hj hl hx k
variable {z p r i j l m : Addr} {n o : Nat} {xs ys : Array Value} {b c : Bool} {u v : Value}
end
/-- the heap once the zip is made -/
def itN (b : Bool) : String := if b then "tuple_iterator" else "list_iterator"
abbrev zm1 (h : Heap) (l : Addr) (b : Bool) : Heap := h.push { cls := .type (itN b), data := .fields #[.ref l, .int 0 0] }
abbrev zm2 (h : Heap) (l m : Addr) (b c : Bool) : Heap := (zm1 h l b).push { cls := .type (itN c), data := .fields #[.ref m, .int 0 0] }
abbrev zm3 (h : Heap) (l m : Addr) (b c : Bool) : Heap := (zm2 h l m b c).push { cls := .type "tuple", data := .seq #[.ref h.objs.size, .ref (zm1 h l b).objs.size] }
abbrev zm4 (h : Heap) (l m : Addr) (b c : Bool) : Heap := (zm3 h l m b c).push { cls := .type "tuple", data := .seq #[.none, .none] }
abbrev zm5 (h : Heap) (l m : Addr) (b c : Bool) : Heap := (zm4 h l m b c).push { cls := .type "zip", data := .fields #[.none, .bool false, .bool false, .ref (zm2 h l m b c).objs.size, .ref (zm3 h l m b c).objs.size] }
section
variable {prog : Program} {w : World} {A : Around} {E : Value → Shared → Prop} {s : Shared} {l m : Addr} {xs ys : Array Value} {b : Bool} {Q : Value → Shared → Prop}
end
/-! ### for the hand layer -/
/-- a tracked list (false) or tuple (true) -/
def SqA (K : PySem.W.Frag) (H : Hp) (a : Addr) (xs : List V) : Bool → Prop
  | true => SqT K H a xs
  | false => SqL K H a xs
def ItM (K : PySem.W.Frag) (a b : Addr) (c d : Bool) : It :=
  ⟨fun i H => ∃ (xs ys : List V) (x y : V), SqA K H a xs c ∧ SqA K H b ys d ∧ xs[i]? = some x ∧ ys[i]? = some y, fun i H v H' => ∃ T x y, v = .ref T ∧ H T = none ∧ H' = upd H T (.tup [x, y]) ∧ (∀ xs, SqA K H a xs c → xs[i]? = some x) ∧ ∀ ys, SqA K H b ys d → ys[i]? = some y, fun i H => ∃ xs ys : List V, SqA K H a xs c ∧ SqA K H b ys d ∧ (xs.length ≤ i ∨ ys.length ≤ i)⟩
section
variable {X : Cx} {pins : List (Addr × Obj)} {σ : L2.St} {H : Hp} {s : Shared}
theorem SqA.is {a : Addr} {xs : List V} {c : Bool} (I : Inv X pins σ H s) (h : SqA X.K H a xs c) : ∃ its : List Value, Vals xs its ∧ Sq s.heap a its.toArray c ∧ a < s.heap.objs.size := by
  cases c
  · obtain ⟨its, rv, p, _⟩ := I.list h
    exact ⟨its, rv, p.isList, p.lt⟩
  · obtain ⟨its, rv, p, _⟩ := I.tuple h
    obtain ⟨o, ho, _⟩ := id p
    exact ⟨its, rv, p, Heap.lt_size ho⟩
theorem SqA.one {a : Addr} {xs ys : List V} {c : Bool} (I : Inv X pins σ H s) (h : SqA X.K H a xs c) (g : SqA X.K H a ys c) : xs = ys := by
  cases c
  · exact I.list_inj h g
  · exact I.tuple_inj h g
end
/-- a zip of a list and a tuple (b: the first is the tuple) -/
def iZipM (K : PySem.W.Frag) (ta : TA) : TI := fun σ H R => ta σ H fun vs H1 => ∃ a b xs ys c, vs = [.ref a, .ref b] ∧ SqA K H1 a xs c ∧ SqA K H1 b ys (!c) ∧ R (ItM K a b c !c) H1
end VL

/-! zip of a tuple and a list at the value layer -/
namespace VL
open PySem PySem.Spec PyProof.Rows L2 RT RZ
section
variable {K : PySem.W.Frag} {W : WX} {G G' H H' H0 : Hp} {σ : L2.St} {ρ : Rho} {X : Cx}
def isM2 (xs : List (Kd × D)) (q : List D → List D → Prop) : Prop := match xs with
  | [(.fz, .lst ds), (.fz, .tup es)] => q ds es
  | [(.fz, .tup ds), (.fz, .lst es)] => q ds es
  | _ => False
def wZipM (wa : DE (List (Kd × D))) : DE (List D) := fun ρ P => wa ρ ⟨fun p xs ρ' => isM2 xs fun ds es => P.ok p (zipD ds es) ρ', P.ex⟩
@[simp ↓] theorem wZipM_eq {wa : DE (List (Kd × D))} {PL : Po (List D)} : wZipM wa ρ PL = wa ρ ⟨fun p xs ρ' => isM2 xs fun ds es => PL.ok p (zipD ds es) ρ', PL.ex⟩ := rfl
@[simp ↓] theorem isM2_l {ds es : List D} {q : List D → List D → Prop} : isM2 [(.fz, .lst ds), (.fz, .tup es)] q = q ds es := rfl
@[simp ↓] theorem isM2_t {ds es : List D} {q : List D → List D → Prop} : isM2 [(.fz, .tup ds), (.fz, .lst es)] q = q ds es := rfl
end
end VL

/-! facts about classes of exceptions, from the written part's own -/
namespace VL
open PySem PySem.Spec PyProof.Rows L2
theorem kcls_of {K : PySem.W.Frag} {E C : Addr} {b : Bool} (hc : PySem.W.isClsIn K C = true) (ht : PySem.W.typeIn K (.ref C) = some (.type "type")) (hs : PySem.W.subIn K (.ref E) (.ref C) = some b) : PySem.W.kitCls K (.ref E) (.ref C) = some b := by
  have hc : (PySem.W.clsIn K C).isSome = true := hc
  unfold PySem.W.kitCls
  simp only [hc, ht]
  simpa using hs
theorem xm_of {K : PySem.W.Frag} {E C : Addr} {b : Bool} (hb : PySem.W.subIn K (.ref C) (.type "BaseException") = some true) (hc : PySem.W.isClsIn K C = true) (ht : PySem.W.typeIn K (.ref C) = some (.type "type")) (hs : PySem.W.subIn K (.ref E) (.ref C) = some b) : PySem.W.exmOne K (.ref E) (.ref C) = some b := by
  unfold PySem.W.exmOne
  rw [hb]
  simp only [beq_self_eq_true, if_true]
  exact kcls_of hc ht hs
end VL

namespace My
open PySem PySem.Spec PyProof.Rows L2 VL
/-- the classes' places -/
structure Cs where
  C_Machine : Addr
  C_Run : Addr
  C_NoMachine : Addr
  C_NoShot : Addr
  C_TapeError : Addr
  C_NoNames : Addr
  C_NoNumber : Addr
  C_NoStretches : Addr
  C_TooLong : Addr
  C_NoShape : Addr
  C_NoMove : Addr
  C_NoWidth : Addr
  C_NoText : Addr
  C_Ribbon : Addr
/-! ### machines as plain things -/
/-- an entry: the sign written, whether to the right, the state that comes -/
abbrev Ent := Option (Int × Bool × Int)
abbrev Tab := List (List Ent)
def wayS (r : Bool) : Str := if r then "r" else "l"
def entD : Ent → D
  | none => .non
  | some (w, r, s) => .tup [.int w, .str (wayS r), .int s]
def rowL (r : List Ent) : D := .lst (r.map entD)
def rowT (r : List Ent) : D := .tup (r.map entD)
def tabL (t : Tab) : D := .lst (t.map rowL)
def tabT (t : Tab) : D := .tup (t.map rowT)
def EntOk (st sg : Nat) : Ent → Prop
  | none => True
  | some (w, _, s) => (0 ≤ w ∧ w < sg) ∧ 0 ≤ s ∧ s < st
structure TabOk (t : Tab) (st sg : Nat) : Prop where
  st0 : 0 < st
  sg0 : 0 < sg
  stS : st ≤ 1000
  sgS : sg ≤ 1000
  len : t.length = st
  row : ∀ r ∈ t, r.length = sg ∧ ∀ e ∈ r, EntOk st sg e
/-- cells that are not blank -/
abbrev Cells := List (Int × Int)
def cK (c : Cells) : List (Key × D) := c.map fun x => (.inl x.1, .int x.2)
def cD (c : Cells) : D := .dct (cK c)
def cGet (c : Cells) (p : Int) : Option Int := (c.find? fun x => decide (x.1 = p)).map (·.2)
def cAt (c : Cells) (p : Int) : Int := (cGet c p).getD 0
def cPut (c : Cells) (p s : Int) : Cells := if (c.any fun x => decide (x.1 = p)) = true then c.map (fun x => if x.1 = p then (x.1, s) else x) else c ++ [(p, s)]
def cDrop (c : Cells) (p : Int) : Cells := c.filter fun x => decide (x.1 ≠ p)
/-- a configuration: state, place, cells -/
structure Cf where
  q : Int
  p : Int
  c : Cells
def rowAt (t : Tab) (q : Int) : List Ent := t.getD q.toNat []
def entAt (t : Tab) (q s : Int) : Ent := (rowAt t q).getD s.toNat none
def stepC (t : Tab) (x : Cf) : Option Cf := match entAt t x.q (cAt x.c x.p) with
  | none => none
  | some (w, r, s) => some ⟨s, if r then x.p + 1 else x.p - 1, if w = 0 then cDrop x.c x.p else cPut x.c x.p w⟩
structure CfOk (x : Cf) (st sg : Nat) : Prop where
  q0 : 0 ≤ x.q
  q1 : x.q < st
  c0 : ∀ y ∈ x.c, 0 ≤ y.2 ∧ y.2 < sg
def runD (A : Cs) (t : Tab) (x : Cf) : D := .obj A.C_Run [("table", tabT t), ("state", .int x.q), ("place", .int x.p), ("cells", cD x.c)]
def machD (A : Cs) (t : Tab) : D := .obj A.C_Machine [("table", tabT t)]
/-- so many steps, or as many as there are -/
def runC (t : Tab) : Nat → Cf → Nat × Cf
  | 0, x => (0, x)
  | n + 1, x => match stepC t x with
    | none => (0, x)
    | some y => ((runC t n y).1 + 1, (runC t n y).2)
def cf0 : Cf := ⟨0, 0, []⟩
/-- a shot as the program tells it -/
def marksD (c : Cells) : D := .tup (c.map fun x => .tup [.int x.1, .int x.2])
def SortedOf (m c : Cells) : Prop := m.Perm c ∧ m.Pairwise fun a b => a.1 ≤ b.1
def shotD (q p : Int) (m : Cells) : D := .tup [.int q, .int p, marksD m]
/-! ### the promises -/
/-- whether a plain thing is a number below n -/
def numB (n : Int) : D → Bool
  | .int x => decide (0 ≤ x ∧ x < n)
  | _ => false
/-- a plain thing: no dict, no instance -/
def plB : D → Bool
  | .int _ => true
  | .bl _ => true
  | .non => true
  | .str _ => true
  | .tup _ => true
  | .lst _ => true
  | _ => false
def W_is_number (A : Cs) : DF := fun ds P => ∃ (d : D) (n : Int), ds = [d, .int n] ∧ plB d = true ∧ P.ok (.fz, .bl (numB n d)) ds
@[simp ↓] theorem W_is_number_eq {A : Cs} {x n : Int} {P : Pf} : W_is_number A [.int x, .int n] P = P.ok (.fz, .bl (decide (0 ≤ x ∧ x < n))) [.int x, .int n] := by
  apply propext
  constructor
  · rintro ⟨d, m, e, _, h⟩
    cases e
    exact h
  · exact fun h => ⟨_, _, rfl, rfl, h⟩
@[simp ↓] theorem W_is_number_bl {A : Cs} {b : Bool} {n : Int} {P : Pf} : W_is_number A [.bl b, .int n] P = P.ok (.fz, .bl false) [.bl b, .int n] := by
  apply propext
  constructor
  · rintro ⟨d, m, e, _, h⟩
    cases e
    exact h
  · exact fun h => ⟨_, _, rfl, rfl, h⟩
def W_entry_kept (A : Cs) : DF := fun ds P => ∃ (e : Ent) (st sg : Nat), ds = [entD e, .int st, .int sg] ∧ EntOk st sg e ∧ P.ok (.fz, entD e) ds
def W_Machine_init (A : Cs) : DF := fun ds P => ∃ (t : Tab) (st sg : Nat) (C : Addr), ds = [.obj A.C_Machine [], tabL t] ∧ TabOk t st sg ∧ P.ok (.fz, .non) [machD A t, tabL t]
def W_states_of (A : Cs) : DF := fun ds P => ∃ t : Tab, ds = [machD A t] ∧ P.ok (.fz, .int t.length) ds
def W_signs_of (A : Cs) : DF := fun ds P => ∃ (t : Tab) (st sg : Nat), ds = [machD A t] ∧ TabOk t st sg ∧ P.ok (.fz, .int sg) ds
/-- marks: signs within, places that rise -/
def MarksOk (sg : Nat) (m : Cells) : Prop := (∀ y ∈ m, 0 < y.2 ∧ y.2 < sg) ∧ m.Pairwise fun a b => a.1 < b.1
def ShotOk (st sg : Nat) (q : Int) (m : Cells) : Prop := (0 ≤ q ∧ q < st) ∧ MarksOk sg m
def W_ask_shot (A : Cs) : DF := fun ds P => ∃ (t : Tab) (st sg : Nat) (q p : Int) (m : Cells), ds = [machD A t, shotD q p m] ∧ TabOk t st sg ∧ ((ShotOk st sg q m ∧ P.ok (.fz, .non) ds) ∨ (¬ ShotOk st sg q m ∧ P.ex A.C_NoShot [] ds))
def W_Run_init (A : Cs) : DF := fun ds P => ∃ (t : Tab) (q p : Int) (m : Cells), ds = [.obj A.C_Run [], machD A t, shotD q p m] ∧ (m.length ≤ 50000 ∧ m.Pairwise fun a b => a.1 < b.1) ∧ P.ok (.fz, .non) [runD A t ⟨q, p, m⟩, machD A t, shotD q p m]
def W_Run_step (A : Cs) : DF := fun ds P => ∃ (t : Tab) (st sg : Nat) (x : Cf), ds = [runD A t x] ∧ TabOk t st sg ∧ CfOk x st sg ∧ x.c.length ≤ 90000 ∧ match stepC t x with
  | none => P.ok (.fz, .bl false) [runD A t x]
  | some y => P.ok (.fz, .bl true) [runD A t y]
def W_Run_shot (A : Cs) : DF := fun ds P => ∃ (t : Tab) (x : Cf), ds = [runD A t x] ∧ (x.c.map (·.1)).Nodup ∧ x.c.length ≤ 90000 ∧ ∀ m, SortedOf m x.c → P.ok (.fz, shotD x.q x.p m) [runD A t x]
def W_ran (A : Cs) : DF := fun ds P => ∃ (t : Tab) (st sg : Nat) (x : Cf) (n : Int), ds = [runD A t x, .int n] ∧ TabOk t st sg ∧ CfOk x st sg ∧ (n ≤ 10000 ∧ x.c.length ≤ 50000) ∧ P.ok (.fz, .int ((runC t n.toNat x).1 : Nat)) [runD A t (runC t n.toNat x).2, .int n]
def W_after_from (A : Cs) : DF := fun ds P => ∃ (t : Tab) (st sg : Nat) (q p : Int) (c : Cells) (n : Int), ds = [machD A t, shotD q p c, .int n] ∧ TabOk t st sg ∧ (n ≤ 10000 ∧ c.length ≤ 50000) ∧
  ((ShotOk st sg q c ∧ ∀ m, SortedOf m (runC t n.toNat ⟨q, p, c⟩).2.c → P.ok (.fz, .tup [shotD (runC t n.toNat ⟨q, p, c⟩).2.q (runC t n.toNat ⟨q, p, c⟩).2.p m, .int ((runC t n.toNat ⟨q, p, c⟩).1 : Nat)]) ds) ∨ (¬ ShotOk st sg q c ∧ P.ex A.C_NoShot [] ds))
def W_after (A : Cs) : DF := fun ds P => ∃ (t : Tab) (st sg : Nat) (n : Int), ds = [machD A t, .int n] ∧ TabOk t st sg ∧ n ≤ 10000 ∧
  ∀ m, SortedOf m (runC t n.toNat cf0).2.c → P.ok (.fz, .tup [shotD (runC t n.toNat cf0).2.q (runC t n.toNat cf0).2.p m, .int ((runC t n.toNat cf0).1 : Nat)]) ds
def endE (t : Tab) (x : Cf) : Bool := (stepC t x).isNone
def W_stops_at (A : Cs) : DF := fun ds P => ∃ (t : Tab) (st sg : Nat) (n : Int), ds = [machD A t, .int n] ∧ TabOk t st sg ∧ n ≤ 10000 ∧
  P.ok (.fz, if 0 ≤ n ∧ endE t (runC t n.toNat cf0).2 = true then .int ((runC t n.toNat cf0).1 : Nat) else .non) ds
/-! one form each -/
theorem entD_inj : ∀ {a b : Ent}, entD a = entD b → a = b
  | none, none, _ => rfl
  | none, some _, h => by simp [entD] at h
  | some _, none, h => by simp [entD] at h
  | some (a, b, c), some (d, e, f), h => by
    simp only [entD, D.tup.injEq, List.cons.injEq, D.int.injEq, D.str.injEq, and_true] at h
    obtain ⟨rfl, h, rfl⟩ := h
    have : b = e := by cases b <;> cases e <;> first | rfl | simp [wayS] at h
    rw [this]
theorem map_inj' {α β : Type} {f : α → β} (h : ∀ {a b}, f a = f b → a = b) : ∀ {xs ys : List α}, xs.map f = ys.map f → xs = ys
  | [], [], _ => rfl
  | [], _ :: _, e => by simp at e
  | _ :: _, [], e => by simp at e
  | x :: xs, y :: ys, e => by
    simp only [List.map_cons, List.cons.injEq] at e
    rw [h e.1, map_inj' h e.2]
theorem rowT_inj {a b : List Ent} (h : rowT a = rowT b) : a = b := map_inj' entD_inj (by simpa [rowT] using h)
theorem rowL_inj {a b : List Ent} (h : rowL a = rowL b) : a = b := map_inj' entD_inj (by simpa [rowL] using h)
@[simp] theorem tabT_inj {a b : Tab} : tabT a = tabT b ↔ a = b := ⟨fun h => map_inj' (f := rowT) rowT_inj (by simpa [tabT] using h), fun h => h ▸ rfl⟩
@[simp] theorem tabL_inj {a b : Tab} : tabL a = tabL b ↔ a = b := ⟨fun h => map_inj' (f := rowL) rowL_inj (by simpa [tabL] using h), fun h => h ▸ rfl⟩
@[simp] theorem machD_inj {A : Cs} {a b : Tab} : machD A a = machD A b ↔ a = b := by simp [machD]
theorem cK_inj {a b : Cells} (h : cK a = cK b) : a = b := map_inj' (f := fun x : Int × Int => ((.inl x.1, .int x.2) : Key × D)) (fun {x y} e => by
  obtain ⟨x1, x2⟩ := x
  obtain ⟨y1, y2⟩ := y
  simpa using e) h
@[simp] theorem cD_inj {a b : Cells} : cD a = cD b ↔ a = b := ⟨fun h => cK_inj (by simpa [cD] using h), fun h => h ▸ rfl⟩
@[simp] theorem marksD_inj {a b : Cells} : marksD a = marksD b ↔ a = b := ⟨fun h => map_inj' (f := fun x : Int × Int => D.tup [.int x.1, .int x.2]) (fun {x y} e => by
  obtain ⟨x1, x2⟩ := x
  obtain ⟨y1, y2⟩ := y
  simpa using e) (by simpa [marksD] using h), fun h => h ▸ rfl⟩
@[simp] theorem shotD_inj {a b c d : Int} {m n : Cells} : shotD a b m = shotD c d n ↔ a = c ∧ b = d ∧ m = n := by simp [shotD]
@[simp] theorem runD_inj {A : Cs} {a b : Tab} {x y : Cf} : runD A a x = runD A b y ↔ a = b ∧ x = y := by
  obtain ⟨x1, x2, x3⟩ := x
  obtain ⟨y1, y2, y3⟩ := y
  simp [runD]
/-! ### the law's own -/
def W__law_next (A : Cs) : DF := fun ds P => match ds with
  | [.scr ns, .lst [.int a]] => (0 ≤ a ∧ a ≤ 1000000000) ∧ ∀ m : Int, 0 ≤ m → m < 1999999973 → P.ok (.fz, .int m) [.scr ns, .lst [.int (a + 1)]]
  | _ => False
@[simp ↓] theorem W__law_next_eq {A : Cs} {ns : List Int} {a : Int} {P : Pf} : W__law_next A [.scr ns, .lst [.int a]] P = ((0 ≤ a ∧ a ≤ 1000000000) ∧ ∀ m : Int, 0 ≤ m → m < 1999999973 → P.ok (.fz, .int m) [.scr ns, .lst [.int (a + 1)]]) := rfl
end My

namespace My
open PySem PySem.Spec PyProof.Rows L2 VL
/-! ### cells -/
theorem valD_cK (p : Int) : ∀ c : Cells, valD (cK c) (.inl p) = (cGet c p).map .int
  | [] => rfl
  | (a, b) :: c => by
    have ih := valD_cK p c
    unfold valD cK cGet at *
    by_cases h : a = p
    · simp [h]
    · simp only [List.map_cons, List.find?_cons]
      have h1 : decide ((Sum.inl a : Key) = Sum.inl p) = false := by simp [h]
      have h2 : decide (a = p) = false := by simp [h]
      rw [h1, h2]
      exact ih
theorem getD_cK {p : Int} {c : Cells} : getD' (valD (cK c) (.inl p)) (.int 0) = .int (cAt c p) := by
  rw [valD_cK]
  unfold cAt
  cases cGet c p <;> rfl
theorem any_cK (p : Int) : ∀ c : Cells, ((cK c).any fun kv => decide (kv.1 = Sum.inl p)) = c.any fun x => decide (x.1 = p)
  | [] => rfl
  | (a, b) :: c => by
    have ih := any_cK p c
    unfold cK at *
    simp only [List.map_cons, List.any_cons, ih]
    congr 1
    simp
theorem put_cK {c : Cells} {p s : Int} : putKD (cK c) (.inl p) (.int s) = cK (cPut c p s) := by
  unfold putKD cPut
  rw [any_cK]
  split
  · unfold cK
    rw [List.map_map, List.map_map]
    refine List.map_congr_left fun x hx => ?_
    simp only [Function.comp]
    by_cases h : x.1 = p
    · simp [h]
    · simp [h]
  · simp [cK]
theorem drop_cK {c : Cells} {p : Int} : dropKD (cK c) (.inl p) = cK (cDrop c p) := by
  unfold dropKD cDrop cK
  rw [List.filter_map]
  congr 1
  refine List.filter_congr fun x hx => ?_
  simp [Function.comp]
theorem cK_len {c : Cells} : (cK c).length = c.length := by simp [cK]
theorem cPut_len {c : Cells} {p s : Int} : (cPut c p s).length ≤ c.length + 1 := by
  unfold cPut
  split <;> simp
theorem cDrop_len {c : Cells} {p : Int} : (cDrop c p).length ≤ c.length := List.length_filter_le _ _
theorem drop_map (p s : Int) : ∀ c : Cells, (c.map fun x => if x.1 = p then (x.1, s) else x).filter (fun x => decide (x.1 ≠ p)) = c.filter fun x => decide (x.1 ≠ p)
  | [] => rfl
  | x :: c => by
    have ih := drop_map p s c
    by_cases h : x.1 = p
    · simpa [List.filter_cons, h] using ih
    · simpa [List.filter_cons, h] using ih
theorem cDrop_put {c : Cells} {p s : Int} : cDrop (cPut c p s) p = cDrop c p := by
  unfold cDrop cPut
  split
  · exact drop_map p s c
  · simp [List.filter_append]
theorem cAt_ok {c : Cells} {p : Int} {n : Nat} (h : ∀ y ∈ c, 0 ≤ y.2 ∧ y.2 < n) (hn : 0 < n) : 0 ≤ cAt c p ∧ cAt c p < n := by
  unfold cAt cGet
  cases e : c.find? fun x => decide (x.1 = p) with
  | none => simp; omega
  | some x => exact h x (List.mem_of_find?_eq_some e)
theorem cPut_ok {c : Cells} {p s : Int} {P : Int → Prop} (h : ∀ y ∈ c, P y.2) (hs : P s) : ∀ y ∈ cPut c p s, P y.2 := by
  unfold cPut
  intro y hy
  split at hy
  · obtain ⟨x, hx, rfl⟩ := List.mem_map.mp hy
    split
    · exact hs
    · exact h x hx
  · rcases List.mem_append.mp hy with q | q
    · exact h y q
    · simp at q; subst q; exact hs
theorem cDrop_ok {c : Cells} {p : Int} {P : Int → Prop} (h : ∀ y ∈ c, P y.2) : ∀ y ∈ cDrop c p, P y.2 := fun y hy => h y (List.mem_filter.mp hy).1
theorem cPut_nd {c : Cells} {p s : Int} (h : (c.map (·.1)).Nodup) : ((cPut c p s).map (·.1)).Nodup := by
  unfold cPut
  split
  · have : (c.map fun x => if x.1 = p then (x.1, s) else x).map (·.1) = c.map (·.1) := by
      rw [List.map_map]
      refine List.map_congr_left fun x _ => ?_
      simp only [Function.comp]
      split <;> rfl
    rw [this]; exact h
  · rename_i hn
    rw [List.map_append]
    refine List.nodup_append.mpr ⟨h, by simp, fun a ha b hb e => ?_⟩
    simp at hb
    subst e; subst hb
    obtain ⟨x, hx, e⟩ := List.mem_map.mp ha
    exact hn (List.any_eq_true.mpr ⟨x, hx, by simp [e]⟩)
theorem cDrop_nd {c : Cells} {p : Int} (h : (c.map (·.1)).Nodup) : ((cDrop c p).map (·.1)).Nodup := by
  refine List.Nodup.sublist ?_ h
  exact List.Sublist.map _ List.filter_sublist
/-! ### tables -/
theorem rowAt_get {t : Tab} {st sg : Nat} {q : Int} (h : TabOk t st sg) (h1 : 0 ≤ q) (h2 : q < st) : t[q.toNat]? = some (rowAt t q) := by
  have hq : q.toNat < t.length := by rw [h.len]; omega
  unfold rowAt
  simp [List.getD, hq]
theorem rowAt_mem {t : Tab} {st sg : Nat} {q : Int} (h : TabOk t st sg) (h1 : 0 ≤ q) (h2 : q < st) : rowAt t q ∈ t := List.mem_of_getElem? (rowAt_get h h1 h2)
theorem row_len {t : Tab} {st sg : Nat} {q : Int} (h : TabOk t st sg) (h1 : 0 ≤ q) (h2 : q < st) : (rowAt t q).length = sg := (h.row _ (rowAt_mem h h1 h2)).1
theorem entAt_get {t : Tab} {st sg : Nat} {q s : Int} (h : TabOk t st sg) (h1 : 0 ≤ q) (h2 : q < st) (h3 : 0 ≤ s) (h4 : s < sg) : (rowAt t q)[s.toNat]? = some (entAt t q s) := by
  have hs : s.toNat < (rowAt t q).length := by rw [row_len h h1 h2]; omega
  unfold entAt
  simp [List.getD, hs]
theorem ent_ok {t : Tab} {st sg : Nat} {q s : Int} (h : TabOk t st sg) (h1 : 0 ≤ q) (h2 : q < st) (h3 : 0 ≤ s) (h4 : s < sg) : EntOk st sg (entAt t q s) :=
  (h.row _ (rowAt_mem h h1 h2)).2 _ (List.mem_of_getElem? (entAt_get h h1 h2 h3 h4))
theorem ixN_of {n : Nat} {i : Int} (h1 : 0 ≤ i) (h2 : i < n) : ixN n i = some i.toNat := by simp [ixN, h1, h2]
theorem atI_of {α : Type} {xs : List α} {i : Int} (h1 : 0 ≤ i) (h2 : i < xs.length) : L2.atI xs i = xs[i.toNat]? := by
  unfold L2.atI
  rw [ixN_of h1 h2]
  rfl
theorem atI_row {g : List Ent → D} {t : Tab} {st sg : Nat} {q : Int} (h : TabOk t st sg) (h1 : 0 ≤ q) (h2 : q < st) : L2.atI (t.map g) q = some (g (rowAt t q)) := by
  rw [atI_of h1 (by rw [List.length_map, h.len]; omega), List.getElem?_map, rowAt_get h h1 h2]
  rfl
theorem atI_ent {t : Tab} {st sg : Nat} {q s : Int} (h : TabOk t st sg) (h1 : 0 ≤ q) (h2 : q < st) (h3 : 0 ≤ s) (h4 : s < sg) : L2.atI ((rowAt t q).map entD) s = some (entD (entAt t q s)) := by
  rw [atI_of h3 (by rw [List.length_map, row_len h h1 h2]; omega), List.getElem?_map, entAt_get h h1 h2 h3 h4]
  rfl
theorem step_ok {t : Tab} {st sg : Nat} {x y : Cf} (h : TabOk t st sg) (hx : CfOk x st sg) (e : stepC t x = some y) : CfOk y st sg ∧ y.c.length ≤ x.c.length + 1 ∧ ((x.c.map (·.1)).Nodup → (y.c.map (·.1)).Nodup) := by
  have hs := cAt_ok (p := x.p) hx.c0 h.sg0
  have he := ent_ok h hx.q0 hx.q1 hs.1 hs.2
  unfold stepC at e
  split at e
  · cases e
  · rename_i w r s hent
    rw [hent] at he
    cases e
    refine ⟨⟨he.2.1, he.2.2, ?_⟩, ?_, ?_⟩
    · show ∀ y ∈ (if w = 0 then _ else _), _
      split
      · exact cDrop_ok (P := fun z => 0 ≤ z ∧ z < (sg : Int)) hx.c0
      · exact cPut_ok (P := fun z => 0 ≤ z ∧ z < (sg : Int)) hx.c0 he.1
    · show (if w = 0 then cDrop x.c x.p else cPut x.c x.p w).length ≤ _
      split
      · have := cDrop_len (c := x.c) (p := x.p); omega
      · exact cPut_len
    · intro hn
      show ((if w = 0 then cDrop x.c x.p else cPut x.c x.p w).map _).Nodup
      split
      · exact cDrop_nd hn
      · exact cPut_nd hn
theorem runC_n {t : Tab} {n : Nat} {x : Cf} (e : stepC t x = none) : runC t n x = (0, x) := by
  cases n with
  | zero => rfl
  | succ n => simp [runC, e]
theorem runC_s {t : Tab} {n : Nat} {x y : Cf} (e : stepC t x = some y) : runC t (n + 1) x = ((runC t n y).1 + 1, (runC t n y).2) := by simp [runC, e]
theorem cGet_of : ∀ {c : Cells}, (c.map (·.1)).Nodup → ∀ y ∈ c, cGet c y.1 = some y.2
  | [], _, _, h => nomatch h
  | x :: c, hn, y, h => by
    rw [List.map_cons] at hn
    have hn := List.nodup_cons.mp hn
    unfold cGet
    rcases List.mem_cons.mp h with rfl | h
    · simp
    · have ne : ¬ x.1 = y.1 := fun e => hn.1 (by rw [e]; exact List.mem_map.mpr ⟨y, h, rfl⟩)
      rw [List.find?_cons]
      have h2 : decide (x.1 = y.1) = false := by simp [ne]
      rw [h2]
      exact cGet_of hn.2 y h
theorem cAt_of {c : Cells} (hn : (c.map (·.1)).Nodup) {y : Int × Int} (h : y ∈ c) : cAt c y.1 = y.2 := by
  unfold cAt
  rw [cGet_of hn y h]
  rfl
theorem keys_back {c : Cells} (hn : (c.map (·.1)).Nodup) : (c.map (·.1)).map (fun p => (p, cAt c p)) = c := by
  rw [List.map_map]
  have : ∀ y ∈ c, ((fun p => (p, cAt c p)) ∘ fun x : Int × Int => x.1) y = y := fun y hy => by
    show (y.1, cAt c y.1) = y
    rw [cAt_of hn hy]
  rw [List.map_congr_left this]
  simp
theorem sorted_keys {c : Cells} (hn : (c.map (·.1)).Nodup) {ns : List Int} (h1 : ns.Perm (c.map (·.1))) (h2 : ns.Pairwise (· ≤ ·)) : SortedOf (ns.map fun p => (p, cAt c p)) c := by
  refine ⟨?_, ?_⟩
  · have := h1.map fun p => (p, cAt c p)
    rwa [keys_back hn] at this
  · exact List.pairwise_map.mpr h2
theorem ints_keys (c : Cells) : intsOf ((cK c).map fun kv => kD kv.1) = some (c.map (·.1)) := by
  unfold cK
  rw [List.map_map]
  induction c with
  | nil => rfl
  | cons x c ih =>
    simp only [List.map_cons, Function.comp] at ih ⊢
    show (match intsOf _ with | some ns => some (x.1 :: ns) | none => none) = _
    rw [show intsOf (List.map ((fun kv : Key × D => kD kv.1) ∘ fun x : Int × Int => (Sum.inl x.1, D.int x.2)) c) = some (c.map (·.1)) from ih]
theorem cGet_some {c : Cells} {p : Int} (h : p ∈ c.map (·.1)) : cGet c p = some (cAt c p) := by
  unfold cAt
  cases e : cGet c p with
  | some v => rfl
  | none =>
    unfold cGet at e
    rw [Option.map_eq_none_iff, List.find?_eq_none] at e
    obtain ⟨y, hy, rfl⟩ := List.mem_map.mp h
    exact absurd (by simp) (e y hy)
/-! the program's things as they are read -/
section
variable {A : Cs} {t : Tab} {x : Cf} {i : Nat} {p : List Nat} {q : Kd × D → Prop} {m : Str}
@[simp ↓] theorem fld_mach : fldK A.C_Machine (Str.ofString "table") 0 (.fz, machD A t) q = q (.fz, tabT t) := by simp [machD]
@[simp ↓] theorem fld_run0 : fldK A.C_Run (Str.ofString "table") 0 (.bor i p (.O [.F, .F, .F, .K]), runD A t x) q = q (.fz, tabT t) := by simp [runD]
@[simp ↓] theorem fld_run1 : fldK A.C_Run (Str.ofString "state") 1 (.bor i p (.O [.F, .F, .F, .K]), runD A t x) q = q (.fz, .int x.q) := by simp [runD]
@[simp ↓] theorem fld_run2 : fldK A.C_Run (Str.ofString "place") 2 (.bor i p (.O [.F, .F, .F, .K]), runD A t x) q = q (.fz, .int x.p) := by simp [runD]
@[simp ↓] theorem fld_run3 : fldK A.C_Run (Str.ofString "cells") 3 (.bor i p (.O [.F, .F, .F, .K]), runD A t x) q = q (.bor i (p ++ [3]) .K, cD x.c) := by simp [runD]
@[simp ↓] theorem obj_run : objOk A.C_Run m (runD A t x) = (([Str.ofString "table", Str.ofString "state", Str.ofString "place", Str.ofString "cells"] : List Str).contains m = false) := by simp [runD]
theorem cf0_ok {st sg : Nat} (h : TabOk t st sg) : CfOk cf0 st sg := ⟨by decide, by have := h.st0; show (0 : Int) < _; omega, fun y hy => nomatch hy⟩
end
theorem cGet_put (p s : Int) : ∀ c : Cells, cGet (cPut c p s) p = some s := fun c => by
  unfold cPut
  split
  · rename_i h
    induction c with
    | nil => simp at h
    | cons x c ih =>
      unfold cGet at *
      by_cases e : x.1 = p
      · simp [e]
      · have h2 : decide (x.1 = p) = false := by simp [e]
        simp only [List.map_cons, if_neg e, List.find?_cons, h2]
        refine ih ?_
        simpa [e] using h
  · rename_i h
    have hn : ∀ y ∈ c, ¬ y.1 = p := fun y hy e => h (List.any_eq_true.mpr ⟨y, hy, by simp [e]⟩)
    unfold cGet
    rw [List.find?_append]
    have e1 : (c.find? fun x => decide (x.1 = p)) = none := by
      rw [List.find?_eq_none]
      intro y hy
      simpa using hn y hy
    rw [e1]
    simp
end My

namespace My
open PySem PySem.Spec PyProof.Rows L2 VL
/-! ### the law's own functions of the runs' laws -/
def cfD (x : Cf) : D := .tup [.int x.q, .int x.p, cD x.c]
@[simp] theorem cfD_inj {x y : Cf} : cfD x = cfD y ↔ x = y := by
  obtain ⟨x1, x2, x3⟩ := x
  obtain ⟨y1, y2, y3⟩ := y
  simp [cfD]
def rowC (t : Tab) : Nat → Cf → List Cf
  | 0, x => [x]
  | n + 1, x => x :: match stepC t x with
    | none => []
    | some y => rowC t n y
def W__law_table (A : Cs) : DF := fun ds P => ∃ (ns : List Int) (a : Int) (st sg : Nat), ds = [.scr ns, .lst [.int a], .int st, .int sg] ∧ (0 ≤ a ∧ a ≤ 900000000) ∧ (0 < st ∧ st ≤ 100) ∧ (0 < sg ∧ sg ≤ 100) ∧
  ∀ (t : Tab) (a' : Int), TabOk t st sg → a ≤ a' → a' ≤ a + 10000 → P.ok (.new (.L (.L .F)), tabL t) [.scr ns, .lst [.int a'], .int st, .int sg]
def W__law_step (A : Cs) : DF := fun ds P => ∃ (t : Tab) (st sg : Nat) (x : Cf), ds = [tabL t, cfD x] ∧ TabOk t st sg ∧ CfOk x st sg ∧ x.c.length ≤ 50000 ∧ match stepC t x with
  | none => P.ok (.fz, .non) ds
  | some y => P.ok (.fz, cfD y) ds
def W__law_run (A : Cs) : DF := fun ds P => ∃ (t : Tab) (st sg : Nat) (x : Cf) (n : Nat), ds = [tabL t, cfD x, .int n] ∧ TabOk t st sg ∧ CfOk x st sg ∧ (x.c.length ≤ 10000 ∧ n ≤ 10000) ∧ P.ok (.new (.L .F), .lst ((rowC t n x).map cfD)) ds
theorem rowC_n {t : Tab} {n : Nat} {x : Cf} (e : stepC t x = none) : rowC t n x = [x] := by
  cases n with
  | zero => rfl
  | succ n => simp [rowC, e]
theorem rowC_s {t : Tab} {n : Nat} {x y : Cf} (e : stepC t x = some y) : rowC t (n + 1) x = x :: rowC t n y := by simp [rowC, e]
theorem rowC_hd (t : Tab) (n : Nat) (x : Cf) : rowC t n x = x :: (rowC t n x).tail := by cases n <;> rfl
theorem row_of {t : Tab} : ∀ {n : Nat} {x : Cf}, (rowC t n x).length = (runC t n x).1 + 1 ∧ (rowC t n x)[(runC t n x).1]? = some (runC t n x).2
  | 0, x => by simp [rowC, runC]
  | n + 1, x => by
    cases e : stepC t x with
    | none => rw [rowC_n e, runC_n e]; simp
    | some y =>
      obtain ⟨h1, h2⟩ := row_of (t := t) (n := n) (x := y)
      rw [rowC_s e, runC_s e]
      refine ⟨by simp [h1], ?_⟩
      show (x :: rowC t n y)[(runC t n y).1 + 1]? = _
      rw [List.getElem?_cons_succ]
      exact h2
open PySem PySem.Spec PyProof.Rows L2 VL
/-! ### k06 -/
theorem sorted_unique {c m m' : Cells} (hn : (c.map (·.1)).Nodup) (h : SortedOf m c) (h' : SortedOf m' c) : m = m' := by
  have key : ∀ {x y : Int × Int}, x ∈ c → y ∈ c → x.1 = y.1 → x = y := fun {x y} hx hy e => by
    have e1 := cAt_of hn hx
    have e2 := cAt_of hn hy
    rw [e] at e1
    exact Prod.ext e (e1.symm.trans e2)
  refine List.Perm.eq_of_pairwise (le := fun a b => a.1 ≤ b.1) (fun a b ha hb h1 h2 => ?_) h.2 h'.2 (h.1.trans h'.1.symm)
  exact key (h.1.mem_iff.mp ha) (h'.1.mem_iff.mp hb) (by omega)
/-- the marks in their order -/
def sortC (c : Cells) : Cells := ((c.map (·.1)).mergeSort (fun a b => decide (a ≤ b))).map fun p => (p, cAt c p)
theorem sortC_of {c : Cells} (hn : (c.map (·.1)).Nodup) : SortedOf (sortC c) c := by
  refine sorted_keys hn (List.mergeSort_perm _ _) ?_
  have := List.pairwise_mergeSort (le := fun a b : Int => decide (a ≤ b)) (fun a b c => by simp; omega) (fun a b => by simp; omega) (c.map (·.1))
  exact this.imp fun h => by simpa using h
theorem sortC_eq {c m : Cells} (hn : (c.map (·.1)).Nodup) (h : SortedOf m c) : m = sortC c := sorted_unique hn h (sortC_of hn)
def shotC (x : Cf) : D := shotD x.q x.p (sortC x.c)
def W__law_shot (A : Cs) : DF := fun ds P => ∃ x : Cf, ds = [cfD x] ∧ (x.c.map (·.1)).Nodup ∧ x.c.length ≤ 90000 ∧ P.ok (.fz, shotC x) ds
theorem sortC_len {c : Cells} (hn : (c.map (·.1)).Nodup) : (sortC c).length = c.length := (sortC_of hn).1.length_eq
def W_law (A : Cs) : DF := fun ds P => ∃ ns : List Int, ds = [.scr ns] ∧ ns.length ≤ 63 ∧ P.ok (.fz, .bl true) ds

/-! ### papers of rounds -/
def roundB (p : D) (k : Str) : Bool := match p with
  | .tup [a, .int x, .int y] => eqX a (.str k) && decide (0 ≤ x ∧ x < y)
  | _ => false
def W_is_round (A : Cs) : DF := fun ds P => ∃ (p : D) (k : Str), ds = [p, .str k] ∧ pdK 50 p = true ∧ PyData.strOk k = true ∧ P.ok (.fz, .bl (roundB p k)) ds
/-- the shots are the same -/
def sameS (x y : Cf) : Prop := x.q = y.q ∧ x.p = y.p ∧ sortC x.c = sortC y.c
instance {x y : Cf} : Decidable (sameS x y) := inferInstanceAs (Decidable (_ ∧ _ ∧ _))
/-- a paper of the kind same, of two numbers, is taken -/
def sameT (t : Tab) (x y : Nat) : Bool := decide ((runC t y cf0).1 = y ∧ sameS (runC t x cf0).2 (runC t y cf0).2)
def natD (p : D) (j : Nat) : Nat := match p with
  | .tup xs => match xs[j]? with
    | some (.int x) => x.toNat
    | _ => 0
  | _ => 0
def W_takes_same (A : Cs) : DF := fun ds P => ∃ (t : Tab) (st sg : Nat) (p : D), ds = [machD A t, p] ∧ TabOk t st sg ∧ pdK 50 p = true ∧ natD p 2 ≤ 10000 ∧ P.ok (.fz, .bl (roundB p "same" && sameT t (natD p 1) (natD p 2))) ds
/-! longer runs in two parts -/
theorem runC_add {t : Tab} : ∀ {a b : Nat} {x : Cf}, (runC t a x).1 = a → runC t (a + b) x = (a + (runC t b (runC t a x).2).1, (runC t b (runC t a x).2).2)
  | 0, b, x, h => by simp [runC]
  | a + 1, b, x, h => by
    cases e : stepC t x with
    | none => rw [runC_n e] at h; simp at h
    | some y =>
      rw [runC_s e] at h
      have h' : (runC t a y).1 = a := by simpa using h
      have e2 : a + 1 + b = (a + b) + 1 := by omega
      rw [e2, runC_s e, runC_s e, runC_add h']
      simp
      omega
/-! ### the same but for the order of the marks -/
structure Sim (x y : Cf) : Prop where
  q : x.q = y.q
  p : x.p = y.p
  c : x.c.Perm y.c
  n : (x.c.map (·.1)).Nodup
theorem Sim.same {x y : Cf} (h : Sim x y) : sameS x y := by
  have hy : (y.c.map (·.1)).Nodup := (h.c.map (·.1)).nodup_iff.mp h.n
  refine ⟨h.q, h.p, ?_⟩
  have h1 := sortC_of h.n
  exact sortC_eq hy ⟨h1.1.trans h.c, h1.2⟩
def W__law_machine_by (A : Cs) : DF := fun ds P => ∃ (ns : List Int) (a : Int), ds = [.scr ns, .lst [.int a]] ∧ (0 ≤ a ∧ a ≤ 800000000) ∧
  ∀ (t : Tab) (st sg : Nat) (a' : Int), TabOk t st sg → st ≤ 5 → sg ≤ 8 → a ≤ a' → a' ≤ a + 20000 → P.ok (.new (.L (.L .F)), tabL t) [.scr ns, .lst [.int a']]
/-! calls, as they come -/
section
variable {A : Cs} {t : Tab} {st sg : Nat} {P : Pf}
theorem lshot_i {x : Cf} (hn : (x.c.map (·.1)).Nodup) (hl : x.c.length ≤ 90000) (h : P.ok (.fz, shotC x) [cfD x]) : W__law_shot A [cfD x] P := ⟨x, rfl, hn, hl, h⟩
theorem mach_i (ht : TabOk t st sg) (h : P.ok (.fz, .non) [machD A t, tabL t]) : W_Machine_init A [.obj A.C_Machine [], tabL t] P := ⟨t, st, sg, A.C_Machine, rfl, ht, h⟩
end
end My

/-! divmod -/
namespace VL
open PySem PySem.Spec PyProof.Rows L2 RT RZ
section
variable {K : PySem.W.Frag}
def oDivmod : OL := fun xs q => two2 xs fun x y => intK x.2 y.2 fun i j => CDiv i j ∧ q (.fz, .tup [.int (i / j), .int (i % j)])
@[simp ↓] theorem oDivmod_c {k k' : Kd} {i j : Int} {q : Kd × D → Prop} : oDivmod [(k, .int i), (k', .int j)] q = (CDiv i j ∧ q (.fz, .tup [.int (i / j), .int (i % j)])) := rfl
end
end VL

/-! list(reversed(a list)), tuple(reversed(a list)) -/
namespace VL
open PySem PySem.Spec PyProof.Rows L2 RT RZ
section
variable {prog : Program} {w : World} {A : Around} {E : Value → Shared → Prop} {s : Shared}
/-- the new list at S takes what a reversed list at I gives -/
theorem lrev_ext {S I l : Addr} {items : Array Value} {c : Nat} {res : Value} {R : Result → Shared → Prop} (hh : A.handled = none) (hit : s.heap.IsRevIter I l ((items.size : Int) - 1)) (hl : s.heap.IsList l items) (hne : l ≠ I) (hn : items.size ≤ sizeLine) (hSI : S ≠ I) (hSl : S ≠ l)
    (hS : s.heap.get? S = some { cls := .type "list", data := .seq #[] c })
    (k : ∀ t acc c', (∀ b o, b ≠ S → b ≠ I → s.heap.get? b = some o → t.heap.get? b = some o) → t = { s with heap := t.heap, toks := t.toks } → t.heap.get? S = some { cls := .type "list", dict := none, data := .seq acc c', slots := #[] } → ItemsOf (fun i v => items[items.size - 1 - i]? = some v) acc items.size → R (.ok (.ret res)) t) :
    wpAny (model prog w) A.in1 (Builtin.List.listExtendWith (.ref S) (.ref I) res) (fun fin t => match fin with | .done f => R (.ok f) t | .again c => c.quiet = true ∧ codeAny (model prog w) A c R t) (fun e t => R (.error e) t) s := by
  have W := (Walks.listRev (prog := prog) (w := w) (A := A.in1) hh I l hne items).toS
  have fS : S ∉ [I, l] := by simp only [List.mem_cons, List.not_mem_nil, or_false, not_or]; exact ⟨hSI, hSl⟩
  have ht : s.TypeIs (.ref I) "list_reverseiterator" := hit.typeIs
  have n1 : Builtin.List.listSameRef (.ref S) (.ref I) = false := by simp [Builtin.List.listSameRef, hSI]
  unfold Builtin.List.listExtendWith; refine wpAny_bind (wpAny_typeOf ht ?_); rw [if_neg (by rw [n1]; decide)]
  refine wpAny_bind (wpAny_pyIter_revIter hit ?_); refine wpAny_bind (wpAny_holding ?_); unfold Builtin.List.listLengthHint
  refine wpAny_bind (wpAny_specialOf ht nolen_lri ?_); show wpAny _ A.in1 (specialOf (Value.ref I) (Str.ofString "__length_hint__") >>= _) _ _ _
  refine wpAny_bind (wpAny_specialOf ht hint_lri ?_); generalize hid : ("list_reverseiterator.__length_hint__" : String) = idn
  wp_delta; rw [show splitId idn = some ("list_reverseiterator", "__length_hint__") from by subst hid; decide +kernel]; subst hid
  refine wpAny_bind (wpAny_isInstance (b := true) ht (by rw [isSubtype_type]; kernel_rfl) (wpAny_pure ?_)); rw [if_neg (by decide)]
  have z : ((items.size : Nat) : Int) - 1 - ((0 : Nat) : Int) = (items.size : Int) - 1 := by omega
  refine wpAny_pure ⟨plainId_quiet F.plain_extend_loop _, codeAny_extend_loopS W hn _ fS _ items.size 0 _ _ _ rfl (Nat.zero_le _) ⟨Nat.zero_le _, by rw [z]; exact hit, hl⟩ hS (ItemsOf.nil _) fun t acc c' hm hT hacc => ?_⟩
  refine k t acc c' (fun b o h1 h2 e => hm.heap b o (fun q => ?_) e) (Moved.eq_with hm) hT hacc
  rcases List.mem_cons.mp q with q | q
  · exact h1 q
  · exact h2 (List.mem_singleton.mp q)
theorem call_lrev {I l : Addr} {items : Array Value} {Q : Value → Shared → Prop} (hh : A.handled = none) (hit : s.heap.IsRevIter I l ((items.size : Int) - 1)) (hl : s.heap.IsList l items) (hne : l ≠ I) (hn : items.size ≤ sizeLine)
    (k : ∀ t acc c', (∀ b o, b ≠ s.heap.objs.size → b ≠ I → s.heap.get? b = some o → t.heap.get? b = some o) → t = { s with heap := t.heap, toks := t.toks } → t.heap.get? s.heap.objs.size = some { cls := .type "list", dict := none, data := .seq acc c', slots := #[] } → ItemsOf (fun i v => items[items.size - 1 - i]? = some v) acc items.size → Q (.ref s.heap.objs.size) t) :
    wpAny (model prog w) A (call (.type "list") [.ref I]) Q E s := by
  obtain ⟨oi, ei, _⟩ := id hit
  obtain ⟨ol, el, _⟩ := id hl
  have hSI : s.heap.objs.size ≠ I := Nat.ne_of_gt (Heap.lt_size ei)
  have hSl : s.heap.objs.size ≠ l := Nat.ne_of_gt (Heap.lt_size el)
  refine callType_codes (Q₁ := fun obj s₁ => obj = .ref s.heap.objs.size ∧ s₁ = { s with heap := s.heap.push { cls := .type "list", data := .seq #[] } }) F.called_list (F.typeCall_list_1 _) F.entry_list_init (code_list_new _ ⟨rfl, rfl⟩) fun obj s1 h1 => ?_
  obtain ⟨rfl, rfl⟩ := h1
  have hS : (s.heap.push { cls := .type "list", data := .seq #[] }).get? s.heap.objs.size = some { cls := .type "list", data := .seq #[] } := Heap.get?_push_size _ rfl
  refine ⟨⟨_, hS, rfl⟩, F.args_list_init_2 _ _, ?_⟩
  show wpAny _ A.in1.in1 (do let old ← Builtin.List.listItems (.ref s.heap.objs.size); Builtin.List.listUpdate (.ref s.heap.objs.size) (fun _ => #[]); letGo old.toList.reverse; Builtin.List.listExtendWith (.ref s.heap.objs.size) (.ref I) .none) _ _ _
  refine wpAny_bind ?_; unfold Builtin.List.listItems; refine wpAny_bind (wpAny_seqItems hS rfl (wpAny_pure ?_))
  show wpAny _ A.in1.in1 (updateSeq s.heap.objs.size (fun _ => #[]) >>= fun _ => letGo (#[] : Array Value).toList.reverse >>= fun _ => Builtin.List.listExtendWith (.ref s.heap.objs.size) (.ref I) .none) _ _ _
  refine wpAny_bind (wpAny_updateSeq hS rfl ?_)
  have hS2 := Heap.get?_update_self (Obj.mapSeq (fun _ => (#[] : Array Value))) hS rfl
  have oth : ∀ b o, b ≠ s.heap.objs.size → s.heap.get? b = some o → ((s.heap.push { cls := .type "list", data := .seq #[] }).update s.heap.objs.size (Obj.mapSeq (fun _ => (#[] : Array Value)))).get? b = some o := fun b o hb e => (Heap.get?_update_other _ _ (Ne.symm hb)).trans (Heap.get?_push_of_some _ e)
  refine wpAny_bind (wpAny_letGo ?_)
  refine lrev_ext (A := A.in1) hh (hit.at fun o e => oth I o (Ne.symm hSI) e) ?_ hne hn hSI hSl hS2 fun t acc c' k1 k2 k3 k4 => ⟨rfl, k t acc c' (fun b o h1 h2 e => k1 b o h1 h2 (oth b o h1 e)) k2 k3 k4⟩
  exact hl.at fun o e => oth l o (Ne.symm hSl) e
end
def rLRev (K : PySem.W.Frag) : V → Hp → VK → Prop := fun v H Q => ∃ (a : Addr) (xs : List V), v = .ref a ∧ SqL K H a xs ∧ ∀ q, H q = none → Q (.ref q) (upd H q (.lst xs.reverse))
def rTRev (K : PySem.W.Frag) : V → Hp → VK → Prop := fun v H Q => ∃ (a : Addr) (xs : List V), v = .ref a ∧ SqL K H a xs ∧ ∀ q, H q = none → Q (.ref q) (upd H q (.tup xs.reverse))
section
variable {X : Cx}
theorem pe_lrev {e : Expr} {te : TE} {p p2 pos pos2 : Pos} (hc : X.calm = true) (hg : Gl X "list") (hm : X.mg "list" = none) (hg2 : Gl X "reversed") (hm2 : X.mg "reversed" = none) (he : PE X e te)
    (hs : starEach [e] X.env = (false, eval e X.env) :: starEach [] X.env := by rfl) (hs2 : starEach [.Call (.Name "reversed" p2) [e] [] pos2] X.env = (false, eval (.Call (.Name "reversed" p2) [e] [] pos2) X.env) :: starEach [] X.env := by rfl) :
    PE X (.Call (.Name "list" p) [.Call (.Name "reversed" p2) [e] [] pos2] [] pos) (tUn (rLRev X.K) te) := by
  refine ⟨fun pins s σ H Q I h => ?_⟩
  refine Call_ (ld_blt I hg hm boot_list (PyProof.Rows.callWith_type1 (args_cons (Call_ (ld_blt I hg2 hm2 PyProof.Rows.boot_reversed (PyProof.Rows.callWith_type1 (args_cons (thn (he.run pins s σ H _ I h) fun u s1 ⟨v, H1, I1, r1, q1⟩ => args_nil ?_) hs) hs rfl))) hs2) hs2 rfl))
  obtain ⟨a, xs, ev, hq, q⟩ := q1
  subst ev
  obtain rfl : u = Value.ref a := r1
  obtain ⟨its, rv, pl, hz⟩ := I1.list hq
  refine call_reversed_list pl.isList (args_nil ?_)
  have k0 : ∀ b o, s1.heap.get? b = some o → (s1.heap.push (revObj a ((its.toArray.size : Int) - 1))).get? b = some o := fun b o e => Heap.get?_push_of_some _ e
  have I2 : Inv X pins σ H1 { s1 with heap := s1.heap.push (revObj a ((its.toArray.size : Int) - 1)) } := I1.kept (t' := s1.toks) k0
  obtain ⟨f0, f1, f2, f3, f4, f5⟩ := I1.fpOk (H' := H1) (b := s1.heap.objs.size) (Nat.le_refl _) (I1.hok.fresh (Nat.le_refl _))
  have hl := pl.isList
  obtain ⟨ol, hol, _⟩ := id hl
  have hn : its.toArray.size ≤ sizeLine := by rw [List.size_toArray, ← rv.length]; exact hz
  refine call_lrev (s := { s1 with heap := s1.heap.push (revObj a ((its.toArray.size : Int) - 1)) }) (I1.ok.hd hc) ⟨_, Heap.get?_push_size _ rfl, rfl, rfl⟩ (hl.push _) (Nat.ne_of_lt (Heap.lt_size hol)) hn fun t acc c' hk ht hT hi => ?_
  have fI : FpOk X pins H1 s1.heap.objs.size := I1.fpOk (Nat.le_refl _) (I1.hok.fresh (Nat.le_refl _))
  have I3 : Inv X pins σ (upd H1 (s1.heap.push (revObj a ((its.toArray.size : Int) - 1))).objs.size (.lst xs.reverse)) { s1 with heap := t.heap, toks := t.toks } := by
    refine I2.turnedNew (t' := t.toks) (ch := [s1.heap.objs.size]) (fun b o hb e => hk b o (Nat.ne_of_lt (Heap.lt_size e)) (fun z => hb (List.mem_singleton.mpr z)) e) (fun b hb => by rw [List.mem_singleton.mp hb]; exact fI) (Nat.le_refl _) ⟨by rw [List.length_reverse]; exact hz, acc.toList, c', vals_rev rv hi, ?_⟩
    rw [Array.toArray_toList]
    exact hT
  rw [ht]
  exact ⟨.ref _, _, I3, rfl, q _ (I2.hok.fresh (Nat.le_refl _))⟩
end
section
variable {K : PySem.W.Frag} {W : WX}
def oLRev : O1 := fun x q => lstK x fun ds => q (.new (.L .F), .lst ds.reverse)
def oTRev : O1 := fun x q => lstK x fun ds => q (.fz, .tup ds.reverse)
theorem ok_LRev : OkR1 K (rLRev K) oLRev := fun S0 S x dx Q q ok hx h k => by
  obtain ⟨p, xs, ds, rfl, h1, h2, h⟩ := Has.lstR ok hx h
  exact ⟨p, xs, rfl, .of h1, fun p hp => new_lst ok k h h2.rev hp⟩
theorem q_lrev {X : Cx} {e : Expr} {we : DE (Kd × D)} {p p2 pos pos2 : Pos} (hc : X.calm = true) (hm : X.mg "list" = none) (hm2 : X.mg "reversed" = none) (he : PE X e (te X.K W we)) (hg : Gl X "list" := by rfl) (hg2 : Gl X "reversed" := by rfl)
    (hs : starEach [e] X.env = (false, eval e X.env) :: starEach [] X.env := by rfl) (hs2 : starEach [.Call (.Name "reversed" p2) [e] [] pos2] X.env = (false, eval (.Call (.Name "reversed" p2) [e] [] pos2) X.env) :: starEach [] X.env := by rfl) :
    PE X (.Call (.Name "list" p) [.Call (.Name "reversed" p2) [e] [] pos2] [] pos) (te X.K W (wUn oLRev we)) := PE.imp (pe_lrev hc hg hm hg2 hm2 he hs hs2) fun _ _ _ h => te_un ok_LRev h
@[simp ↓] theorem oLRev_b {i : Nat} {p : List Nat} {ds : List D} {q : Kd × D → Prop} : oLRev (.bor i p (.L .F), .lst ds) q = q (.new (.L .F), .lst ds.reverse) := rfl
@[simp ↓] theorem oLRev_f {ds : List D} {q : Kd × D → Prop} : oLRev (.fz, .lst ds) q = q (.new (.L .F), .lst ds.reverse) := rfl
end
end VL

/-! try: .. except C: .. without a name; x.f op= y -/
namespace VL
open PySem PySem.Spec PyProof.Rows L2 RT RZ
section
variable {K : PySem.W.Frag} {W : WX} {σ : L2.St} {H : Hp} {X : Cx} {Z : Ends} {E : En} {ρ : Rho}
def wTryO (C : Addr) (b su : DS) : DS := fun E ρ => b { E with ex := fun C' fl ρ' => (C' = C ∧ fl = []) ∧ su { E with ex := fun _ _ _ => False } ρ' } ρ
@[simp ↓] theorem wTryO_eq {C : Addr} {b su : DS} : wTryO C b su E ρ = b { E with ex := fun C' fl ρ' => (C' = C ∧ fl = []) ∧ su { E with ex := fun _ _ _ => False } ρ' } ρ := rfl
theorem ts_tryO {C : Addr} {c : Value} {b su : DS} (hx : PySem.W.exmOne K (.ref C) c = some true) (h : ts K W (wTryO C b su) Z σ H) : ts K (wOnly K c (fun _ _ _ => ts K (fun _ _ _ _ => False) su) W Z) b Z σ H := by
  obtain ⟨S, E, rfl, rfl, ok, w, l⟩ := h
  refine ⟨S, _, rfl, rfl, ok, w, ⟨l.nx, l.bk, l.ct, l.rt, fun C' fl T e okT t dd hd => ?_⟩⟩
  obtain ⟨⟨rfl, rfl⟩, e⟩ := e
  have L := l.to t
  exact ⟨true, hx, fun _ a ha => ⟨T, _, rfl, rfl, okT, e, ⟨L.nx, L.bk, L.ct, L.rt, fun _ _ U q _ _ _ _ => q.elim⟩⟩, fun z => nomatch z⟩
theorem q_tryO {C : Addr} {c : Value} {x : Str} {b su : DS} {body suite : List Stmt} {b₀ : Stmt} {np pos pos' : Pos} (hx : PySem.W.exmOne X.K (.ref C) c = some true) (hm : X.mg x = some c) (tk : Takes X W)
    (hb : ∀ (W : WX) (pn : List (Addr × Obj)) (xe : Value → Shared → Prop), Takes (X.tr pn xe) W → PassesOwn (model X.prog X.w) X.A X.env xe → PSs (X.tr pn xe) body (ts X.K W b))
    (hsu : ∀ (a : Addr) (oe : Obj) (pn : List (Addr × Obj)), PSs (X.suite a ((a, oe) :: pn)) (b₀ :: suite) (ts X.K (fun _ _ _ _ => False) su))
    (hs : X.stack = X.env :: X.outer := by rfl) (hf : X.env.frame = some X.env.locals := by rfl) (hg : Gl X x := by rfl) (hdb : (x == ("__debug__" : Str)) = false := by decide) :
    PS X (.Try body [.ExceptHandler (some (.Name x np)) none (b₀ :: suite) pos'] [] [] pos) (ts X.K W (wTryO C b su)) :=
  PS.imp (ps_try_only (tb := fun W => ts X.K W b) (ts := fun _ _ _ => ts X.K (fun _ _ _ _ => False) su) hs hf ⟨hg, hdb, .inl hm⟩ tk hb fun a oe cls d pn _ _ => hsu a oe pn) fun _ _ _ h => ts_tryO hx h
/-- x.f op= y, y a local name -/
def wAugF (i : Nat) (C : Addr) (f : Str) (j k : Nat) (g : Int → Int → Int) : DS := wPutF i C f j (wOp (oI0 g) (wFld C f j (wVar i)) (wVar k))
theorem ts_augF {i : Nat} {C : Addr} {f : Str} {j k : Nat} {g : Int → Int → Int} (c : Cls K C) (na : NoAttr K C f) (h : ts K W (wAugF i C f j k g) Z σ H) : sFldAug K (tVar i) (tVar k) (fun x y H Q => ∃ i j, x = .int i ∧ y = .int j ∧ Q (.int (g i j)) H) f Z σ H := by
  have h0 := ts_putF c na h
  unfold sFld at h0
  have h1 := te_op ok_I0 h0
  unfold tOp at h1
  have h2 := te_fld c na h1
  unfold tFld at h2
  obtain ⟨x, hx, a, C1, dx, fs, v, rfl, ha, hc, hn, hl, h3⟩ := te_var h2
  obtain ⟨y, hy, i1, j1, rfl, rfl, x2, hx2, a2, C2, dx2, fs2, rfl, ha2, _, _, hl2, h4⟩ := te_var h3
  rw [hx] at hx2
  cases hx2
  rw [ha] at ha2
  cases ha2
  exact ⟨_, hx, a, C1, dx, fs, _, rfl, ha, hc, hn, hl, _, hy, i1, j1, rfl, rfl, dx, fs, ha, hl2, h4⟩
theorem q_augFa (i : Nat) (C : Addr) (j k : Nat) {x y f : Str} {px py pos pos' : Pos} (c : Cls X.K C) (na : NoAttr X.K C f) (hN : X.N[i]? = some x := by rfl) (hvis : Vis X.env.scope x := by first | exact Or.inl rfl | exact Or.inr (Or.inl rfl) | exact Or.inr (Or.inr rfl)) (hd : (x == ("__debug__" : Str)) = false := by decide) (hcd : (x == ("__classdict__" : Str)) = false := by decide)
    (hNy : X.N[k]? = some y := by rfl) (hvy : Vis X.env.scope y := by first | exact Or.inl rfl | exact Or.inr (Or.inl rfl) | exact Or.inr (Or.inr rfl)) (hdy : (y == ("__debug__" : Str)) = false := by decide) (hcy : (y == ("__classdict__" : Str)) = false := by decide) :
    PS X (.AugAssign (.Attribute (.Name x px) f pos') .Add (.Name y py) pos) (ts X.K W (wAugF i C f j k fun a b => a + b)) :=
  PS.imp (ps_fldaug (pv i hN hvis hd hcd) (pv k hNy hvy hdy hcy) in_add) fun _ _ _ h => ts_augF c na h
theorem q_augFs (i : Nat) (C : Addr) (j k : Nat) {x y f : Str} {px py pos pos' : Pos} (c : Cls X.K C) (na : NoAttr X.K C f) (hN : X.N[i]? = some x := by rfl) (hvis : Vis X.env.scope x := by first | exact Or.inl rfl | exact Or.inr (Or.inl rfl) | exact Or.inr (Or.inr rfl)) (hd : (x == ("__debug__" : Str)) = false := by decide) (hcd : (x == ("__classdict__" : Str)) = false := by decide)
    (hNy : X.N[k]? = some y := by rfl) (hvy : Vis X.env.scope y := by first | exact Or.inl rfl | exact Or.inr (Or.inl rfl) | exact Or.inr (Or.inr rfl)) (hdy : (y == ("__debug__" : Str)) = false := by decide) (hcy : (y == ("__classdict__" : Str)) = false := by decide) :
    PS X (.AugAssign (.Attribute (.Name x px) f pos') .Sub (.Name y py) pos) (ts X.K W (wAugF i C f j k fun a b => a - b)) :=
  PS.imp (ps_fldaug (pv i hN hvis hd hcd) (pv k hNy hvy hdy hcy) in_sub) fun _ _ _ h => ts_augF c na h
@[simp ↓] theorem wAugF_eq {i j k : Nat} {C : Addr} {f : Str} {g : Int → Int → Int} : wAugF i C f j k g = wPutF i C f j (wOp (oI0 g) (wFld C f j (wVar i)) (wVar k)) := rfl
end
end VL

namespace My
open PySem PySem.Spec PyProof.Rows L2 VL
/-! ### the law's sameness -/
/-- what is due: ints, texts, lists and tuples of such, at most so deep -/
def ShB : Nat → D → Bool
  | _, .int _ => true
  | _, .str _ => true
  | n + 1, .lst xs => decide (xs.length ≤ 90000) && xs.all (ShB n)
  | n + 1, .tup xs => decide (xs.length ≤ 90000) && xs.all (ShB n)
  | _, _ => false
/-- what is found: None and bools, too -/
def ShF : Nat → D → Bool
  | _, .int _ => true
  | _, .str _ => true
  | _, .non => true
  | _, .bl _ => true
  | n + 1, .lst xs => xs.all (ShF n)
  | n + 1, .tup xs => xs.all (ShF n)
  | _, _ => false
def sameB : D → D → Bool
  | .int a, .int b => decide (a = b)
  | .str a, .str b => decide (a = b)
  | _, _ => false
def sameD : Nat → D → D → Bool
  | n + 1, .lst xs, .lst ys => decide (xs.length = ys.length) && (xs.zip ys).all fun z => sameD n z.1 z.2
  | n + 1, .tup xs, .tup ys => decide (xs.length = ys.length) && (xs.zip ys).all fun z => sameD n z.1 z.2
  | _, x, y => sameB x y
theorem zip_self {α : Type} (f : α → α → Bool) : ∀ xs : List α, (∀ x ∈ xs, f x x = true) → (xs.zip xs).all (fun z => f z.1 z.2) = true
  | [], _ => rfl
  | x :: xs, h => by
    rw [List.zip_cons_cons, List.all_cons, Bool.and_eq_true]
    exact ⟨h x List.mem_cons_self, zip_self f xs fun y hy => h y (List.mem_cons_of_mem _ hy)⟩
theorem sameD_refl : ∀ {n : Nat} {x : D}, ShB n x = true → sameD n x x = true
  | 0, x, h => by cases x <;> simp [ShB] at h <;> simp [sameD, sameB]
  | n + 1, x, h => by
    cases x <;> simp [ShB] at h
    · simp [sameD, sameB]
    · simp [sameD, sameB]
    · rename_i xs
      simp only [sameD, decide_true, Bool.true_and]
      exact zip_self _ xs fun x hx => sameD_refl (h.2 x hx)
    · rename_i xs
      simp only [sameD, decide_true, Bool.true_and]
      exact zip_self _ xs fun x hx => sameD_refl (h.2 x hx)
theorem ShB.f : ∀ {n : Nat} {x : D}, ShB n x = true → ShF n x = true
  | 0, x, h => by cases x <;> simp [ShB] at h <;> simp [ShF]
  | n + 1, x, h => by
    cases x <;> simp [ShB] at h <;> simp [ShF]
    · exact fun x hx => ShB.f (h.2 x hx)
    · exact fun x hx => ShB.f (h.2 x hx)
def W__law_same (A : Cs) : Nat → DF
  | 0 => fun _ _ => False
  | n + 1 => fun ds P => ∃ x y : D, ds = [x, y] ∧ ShF n x = true ∧ ShB n y = true ∧ P.ok (.fz, .bl (sameD n x y)) ds
/-- the same thing -/
theorem same_refl {A : Cs} {n : Nat} {x : D} {P : Pf} (h : ShB n x = true) (hp : P.ok (.fz, .bl true) [x, x]) : W__law_same A (n + 1) [x, x] P := ⟨x, x, rfl, ShB.f h, h, by rw [sameD_refl h]; exact hp⟩
end My

namespace My
open PySem PySem.Spec PyProof.Rows L2 VL
/-! ### stretches -/
abbrev Row := List (Int × Int)
def celD (x : Int × Int) : D := .tup [.int x.1, .int x.2]
def rowSD (r : Row) : D := .lst (r.map celD)
def putS (row : Row) (s n : Int) : Row := if n = 0 ∨ (s = 0 ∧ row = []) then row else match row with
  | [] => [(s, n)]
  | (u, m) :: r => if u = s then (s, m + n) :: r else (s, n) :: (u, m) :: r
def cutS (row : Row) (n : Int) : Row := if n = 0 then row else match row with
  | [] => []
  | (u, m) :: r => if n < m then (u, m - n) :: r else r
def runS (row : Row) (s w : Int) : Int := match row with
  | [] => if s = 0 then w else 0
  | (u, m) :: _ => if u = s then min w m else 0
def nearS (row : Row) : Int := match row with
  | [] => 0
  | (u, _) :: _ => u
def heads (row : Row) : Option Int := row.head?.map (·.1)
def RowW (sg : Nat) : Row → Prop
  | [] => True
  | x :: r => ((0 ≤ x.1 ∧ x.1 < sg) ∧ 1 ≤ x.2) ∧ heads r ≠ some x.1 ∧ RowW sg r
def RowOk (sg : Nat) (r : Row) : Prop := RowW sg r ∧ ∀ x, r.getLast? = some x → x.1 ≠ 0
/-- a machine at work on stretches -/
structure Rb where
  q : Int
  l : Row
  r : Row
  m : Int
structure RbOk (x : Rb) (st sg : Nat) : Prop where
  q : 0 ≤ x.q ∧ x.q < st
  l : RowOk sg x.l
  r : RowOk sg x.r
def stepsS (t : Tab) (x : Rb) (w : Int) (r : Bool) (s : Int) : Int :=
  if s = x.q then (if r then runS x.r (nearS x.r) w else 1 + runS x.l (nearS x.r) (w - 1)) else 1
/-- a leap of n steps by an entry -/
def goS (x : Rb) (e : Int × Bool × Int) (n : Int) : Rb :=
  if e.2.1 then ⟨e.2.2, putS x.l e.1 n, cutS x.r n, x.m + n⟩
  else ⟨e.2.2, cutS (cutS x.l (n - 1)) 1, putS (putS (cutS x.r 1) e.1 n) (nearS (cutS x.l (n - 1))) 1, x.m - n⟩
def leapS (t : Tab) (x : Rb) (w : Int) : Option (Rb × Int) := match entAt t x.q (nearS x.r) with
  | none => none
  | some (a, r, s) => some (goS x (a, r, s) (stepsS t x w r s), stepsS t x w r s)
/-- so many leaps at most; none: more are wanted -/
def fastS (t : Tab) : Nat → Rb → Int → Option (Rb × Int × Nat)
  | 0, x, w => if w ≤ 0 ∨ entAt t x.q (nearS x.r) = none then some (x, 0, 0) else none
  | k + 1, x, w => if w ≤ 0 then some (x, 0, 0) else match leapS t x w with
    | none => some (x, 0, 0)
    | some (y, n) => (fastS t k y (w - n)).map fun z => (z.1, n + z.2.1, z.2.2 + 1)
/-! rows kept -/
theorem RowW.tail {sg : Nat} {x : Int × Int} {r : Row} (h : RowW sg (x :: r)) : RowW sg r := h.2.2
theorem RowOk.tail {sg : Nat} {x : Int × Int} {r : Row} (h : RowOk sg (x :: r)) : RowOk sg r := ⟨h.1.2.2, fun y hy => by
  cases r with
  | nil => simp at hy
  | cons z r => exact h.2 y (by rw [List.getLast?_cons_cons]; exact hy)⟩
theorem rowOk_nil {sg : Nat} : RowOk sg [] := ⟨trivial, fun _ h => by simp at h⟩
theorem rowOk_cons {sg : Nat} {x : Int × Int} {r : Row} (h : (0 ≤ x.1 ∧ x.1 < sg) ∧ 1 ≤ x.2) (hn : heads r ≠ some x.1) (hr : RowOk sg r) (h0 : r = [] → x.1 ≠ 0) : RowOk sg (x :: r) := ⟨⟨h, hn, hr.1⟩, fun y hy => by
  cases r with
  | nil => simp at hy; subst hy; exact h0 rfl
  | cons z r => rw [List.getLast?_cons_cons] at hy; exact hr.2 y hy⟩
theorem RowOk.hd0 {sg : Nat} {x : Int × Int} {r : Row} (h : RowOk sg (x :: r)) : r = [] → x.1 ≠ 0 := fun e => by
  subst e
  exact h.2 x rfl
theorem putS_ok {sg : Nat} {row : Row} {s n : Int} (h : RowOk sg row) (hs : 0 ≤ s ∧ s < sg) (hn : 0 ≤ n) : RowOk sg (putS row s n) := by
  unfold putS
  split
  · exact h
  · rename_i c
    cases row with
    | nil => exact rowOk_cons ⟨hs, by show 1 ≤ n; omega⟩ (by simp [heads]) rowOk_nil fun _ => by show s ≠ 0; exact fun e => c (.inr ⟨e, rfl⟩)
    | cons x r =>
      obtain ⟨u, m⟩ := x
      obtain ⟨⟨h1, h2⟩, h3, h4⟩ := h.1
      dsimp only at h1 h2 h3 h4
      show RowOk sg (if u = s then (s, m + n) :: r else (s, n) :: (u, m) :: r)
      split
      · rename_i e
        subst e
        exact rowOk_cons ⟨hs, by show 1 ≤ m + n; omega⟩ h3 h.tail h.hd0
      · rename_i e
        exact rowOk_cons ⟨hs, by show 1 ≤ n; omega⟩ (by simpa [heads] using e) h fun z => by cases z
theorem cutS_ok {sg : Nat} {row : Row} {n : Int} (h : RowOk sg row) (hn : 0 ≤ n) : RowOk sg (cutS row n) := by
  unfold cutS
  split
  · exact h
  · cases row with
    | nil => exact rowOk_nil
    | cons x r =>
      obtain ⟨u, m⟩ := x
      obtain ⟨⟨h1, h2⟩, h3, h4⟩ := h.1
      dsimp only at h1 h2 h3 h4
      show RowOk sg (if n < m then (u, m - n) :: r else r)
      split
      · exact rowOk_cons ⟨h1, by show 1 ≤ m - n; omega⟩ h3 h.tail h.hd0
      · exact h.tail
theorem nearS_ok {sg : Nat} {row : Row} (h : RowOk sg row) (h0 : 0 < sg) : 0 ≤ nearS row ∧ nearS row < sg := by
  cases row with
  | nil => simp [nearS]; omega
  | cons x r => exact h.1.1.1
theorem runS_ok {sg : Nat} {row : Row} {s w : Int} (h : RowOk sg row) (hw : 0 ≤ w) : 0 ≤ runS row s w ∧ runS row s w ≤ w := by
  cases row with
  | nil => unfold runS; simp only; split <;> omega
  | cons x r =>
    obtain ⟨u, m⟩ := x
    have := h.1.1.2
    unfold runS
    dsimp only at this ⊢
    split <;> omega
theorem runS_near {sg : Nat} {row : Row} {w : Int} (h : RowOk sg row) (hw : 1 ≤ w) : 1 ≤ runS row (nearS row) w := by
  cases row with
  | nil => simp [runS, nearS]; exact hw
  | cons x r =>
    obtain ⟨u, m⟩ := x
    have := h.1.1.2
    simp [runS, nearS]
    dsimp only at this
    omega
theorem stepsS_ok {t : Tab} {x : Rb} {st sg : Nat} (h : RbOk x st sg) {w : Int} (hw : 1 ≤ w) (r : Bool) (s : Int) : 1 ≤ stepsS t x w r s ∧ stepsS t x w r s ≤ w := by
  unfold stepsS
  split
  · split
    · exact ⟨runS_near h.r hw, (runS_ok h.r (by omega)).2⟩
    · have := runS_ok (s := nearS x.r) h.l (w := w - 1) (by omega)
      omega
  · omega
theorem goS_ok {t : Tab} {x : Rb} {st sg : Nat} (ht : TabOk t st sg) (h : RbOk x st sg) {a s n : Int} {r : Bool} (e : entAt t x.q (nearS x.r) = some (a, r, s)) (hn : 1 ≤ n) : RbOk (goS x (a, r, s) n) st sg := by
  have h0 := nearS_ok h.r ht.sg0
  have he := ent_ok ht h.q.1 h.q.2 h0.1 h0.2
  rw [e] at he
  obtain ⟨ha, hs⟩ := he
  have h1 : RowOk sg (cutS x.l (n - 1)) := cutS_ok h.l (by omega)
  cases r
  · show RbOk ⟨s, cutS (cutS x.l (n - 1)) 1, putS (putS (cutS x.r 1) a n) (nearS (cutS x.l (n - 1))) 1, x.m - n⟩ st sg
    exact ⟨hs, cutS_ok (n := 1) h1 (by decide), putS_ok (n := 1) (putS_ok (cutS_ok (n := 1) h.r (by decide)) ha (by omega)) (nearS_ok h1 ht.sg0) (by decide)⟩
  · show RbOk ⟨s, putS x.l a n, cutS x.r n, x.m + n⟩ st sg
    exact ⟨hs, putS_ok h.l ha (by omega), cutS_ok h.r (by omega)⟩
theorem putS_len {row : Row} {s n : Int} : (putS row s n).length ≤ row.length + 1 := by
  unfold putS
  split
  · omega
  · cases row with
    | nil => simp
    | cons x r =>
      obtain ⟨u, m⟩ := x
      dsimp only
      split <;> simp
theorem cutS_len {row : Row} {n : Int} : (cutS row n).length ≤ row.length := by
  unfold cutS
  split
  · omega
  · cases row with
    | nil => simp
    | cons x r =>
      obtain ⟨u, m⟩ := x
      dsimp only
      split <;> simp
theorem goS_len {x : Rb} {e : Int × Bool × Int} {n : Int} : (goS x e n).l.length ≤ x.l.length + 1 ∧ (goS x e n).r.length ≤ x.r.length + 2 := by
  have p := fun (row : Row) s n => putS_len (row := row) (s := s) (n := n)
  have c := fun (row : Row) n => cutS_len (row := row) (n := n)
  unfold goS
  split
  · exact ⟨p _ _ _, by show (cutS x.r n).length ≤ _; have := c x.r n; omega⟩
  · refine ⟨?_, ?_⟩
    · show (cutS (cutS x.l (n - 1)) 1).length ≤ _
      have := c (cutS x.l (n - 1)) 1
      have := c x.l (n - 1)
      omega
    · show (putS (putS (cutS x.r 1) e.1 n) (nearS (cutS x.l (n - 1))) 1).length ≤ _
      have := p (putS (cutS x.r 1) e.1 n) (nearS (cutS x.l (n - 1))) 1
      have := p (cutS x.r 1) e.1 n
      have := c x.r 1
      omega
end My

namespace My
open PySem PySem.Spec PyProof.Rows L2 VL
theorem cutS_0 {row : Row} : cutS row 0 = row := by simp [cutS]
theorem cutS_c {u m n : Int} {r : Row} (h : 1 ≤ n) : cutS ((u, m) :: r) n = if n < m then (u, m - n) :: r else r := by
  unfold cutS
  rw [if_neg (by omega)]
theorem cutS_n {n : Int} : cutS [] n = [] := by unfold cutS; split <;> rfl
theorem cut2 {row : Row} {a b : Int} (ha : 0 ≤ a) (hb : 0 ≤ b) (h : ∀ u m r, row = (u, m) :: r → a + b ≤ m) : cutS (cutS row a) b = cutS row (a + b) := by
  cases row with
  | nil => rw [cutS_n, cutS_n, cutS_n]
  | cons x r =>
    obtain ⟨u, m⟩ := x
    have hm := h u m r rfl
    by_cases a0 : a = 0
    · subst a0; rw [cutS_0, Int.zero_add]
    · by_cases b0 : b = 0
      · subst b0; rw [cutS_0, Int.add_zero]
      · rw [cutS_c (by omega : 1 ≤ a), if_pos (by omega), cutS_c (by omega), cutS_c (by omega)]
        by_cases c : a + b < m
        · rw [if_pos (by omega), if_pos c, show m - a - b = m - (a + b) by omega]
        · rw [if_neg (by omega), if_neg c]
theorem put2 {row : Row} {s a b : Int} (ha : 1 ≤ a) (hb : 1 ≤ b) : putS (putS row s a) s b = putS row s (a + b) := by
  cases row with
  | nil =>
    unfold putS
    by_cases c : s = 0
    · simp [c]
    · have e1 : ¬ a = 0 := by omega
      have e2 : ¬ b = 0 := by omega
      have e3 : ¬ a + b = 0 := by omega
      simp [c, e1, e2, e3]
  | cons x r =>
    obtain ⟨u, m⟩ := x
    have e1 : ¬ a = 0 := by omega
    have e2 : ¬ b = 0 := by omega
    have e3 : ¬ a + b = 0 := by omega
    by_cases c : u = s
    · simp [putS, c, e1, e2, e3]; omega
    · simp [putS, c, e1, e2, e3]
theorem near_put {row : Row} {z : Int} : nearS (putS row z 1) = z := by
  cases row with
  | nil =>
    unfold putS
    by_cases c : z = 0
    · simp [c, nearS]
    · simp [c, nearS]
  | cons x r =>
    obtain ⟨u, m⟩ := x
    by_cases c : u = z
    · simp [putS, c, nearS]
    · simp [putS, c, nearS]
theorem cut_put {sg : Nat} {row : Row} {z : Int} (h : RowOk sg row) : cutS (putS row z 1) 1 = row := by
  cases row with
  | nil =>
    unfold putS
    by_cases c : z = 0
    · simp [c, cutS_n]
    · simp [c, cutS]
  | cons x r =>
    obtain ⟨u, m⟩ := x
    have hm := h.1.1.2
    dsimp only at hm
    by_cases c : u = z
    · subst c
      have e : putS ((u, m) :: r) u 1 = (u, m + 1) :: r := by simp [putS]
      rw [e, cutS_c (by decide), if_pos (by omega)]
      simp
    · have e : putS ((u, m) :: r) z 1 = (z, 1) :: (u, m) :: r := by simp [putS, c]
      rw [e, cutS_c (by decide), if_neg (by decide)]
theorem runS_min {row : Row} {s c w : Int} (hc : 0 ≤ c) (h : c ≤ w) {sg : Nat} (hr : RowOk sg row) : runS row s c = min c (runS row s w) := by
  cases row with
  | nil => unfold runS; dsimp only; split <;> omega
  | cons x r =>
    obtain ⟨u, m⟩ := x
    unfold runS
    dsimp only
    split <;> omega
theorem steps_min {t : Tab} {x : Rb} {st sg : Nat} (h : RbOk x st sg) {c w : Int} (hc : 1 ≤ c) (hw : c ≤ w) (r : Bool) (s : Int) : stepsS t x c r s = min c (stepsS t x w r s) := by
  unfold stepsS
  split
  · split
    · exact runS_min (by omega) hw h.r
    · have := runS_min (s := nearS x.r) (c := c - 1) (w := w - 1) (by omega) (by omega) h.l
      omega
  · omega
/-- a leap in two -/
theorem go2 {t : Tab} {x : Rb} {st sg : Nat} (ht : TabOk t st sg) (h : RbOk x st sg) {a s w c : Int} {r : Bool} (he : entAt t x.q (nearS x.r) = some (a, r, s)) (hc : 1 ≤ c) (hn : c < stepsS t x w r s) :
    entAt t (goS x (a, r, s) c).q (nearS (goS x (a, r, s) c).r) = some (a, r, s) ∧ stepsS t (goS x (a, r, s) c) (w - c) r s = stepsS t x w r s - c ∧ goS (goS x (a, r, s) c) (a, r, s) (stepsS t x w r s - c) = goS x (a, r, s) (stepsS t x w r s) := by
  have hs : s = x.q := by
    unfold stepsS at hn
    split at hn
    · assumption
    · omega
  subst hs
  cases r
  · -- to the left
    have e0 : stepsS t x w false x.q = 1 + runS x.l (nearS x.r) (w - 1) := by simp [stepsS]
    rw [e0] at hn ⊢
    generalize hz : nearS x.r = z at *
    generalize hk : runS x.l z (w - 1) = k at *
    have g : goS x (a, false, x.q) c = ⟨x.q, cutS (cutS x.l (c - 1)) 1, putS (putS (cutS x.r 1) a c) (nearS (cutS x.l (c - 1))) 1, x.m - c⟩ := rfl
    -- what stands to the left
    have key : (x.l = [] ∧ z = 0 ∧ k = w - 1) ∨ ∃ m l', x.l = (z, m) :: l' ∧ k = min (w - 1) m := by
      cases hl : x.l with
      | nil =>
        rw [hl] at hk
        unfold runS at hk
        dsimp only at hk
        split at hk
        · rename_i c0; exact .inl ⟨rfl, c0, hk.symm⟩
        · omega
      | cons y l' =>
        obtain ⟨u, m⟩ := y
        rw [hl] at hk
        unfold runS at hk
        dsimp only at hk
        split at hk
        · rename_i c0; subst c0; exact .inr ⟨m, l', rfl, hk.symm⟩
        · omega
    have hrow : RowOk sg (putS (cutS x.r 1) a c) := putS_ok (cutS_ok h.r (by decide)) (by
      have h0 := nearS_ok h.r ht.sg0
      have he' := ent_ok ht h.q.1 h.q.2 h0.1 h0.2
      rw [hz, he] at he'
      exact he'.1) (by omega)
    have near1 : nearS (cutS x.l (c - 1)) = z := by
      rcases key with ⟨h1, h2, h3⟩ | ⟨m, l', h1, h2⟩
      · rw [h1, cutS_n]; exact h2.symm
      · rw [h1]
        by_cases c1 : c = 1
        · subst c1; rw [show (1 : Int) - 1 = 0 from rfl, cutS_0]; rfl
        · rw [cutS_c (by omega), if_pos (by omega)]; rfl
    have cc : cutS (cutS x.l (c - 1)) 1 = cutS x.l c := by
      rw [cut2 (by omega) (by decide) fun u m r e => ?_, show c - 1 + 1 = c by omega]
      rcases key with ⟨h1, h2, h3⟩ | ⟨m', l', h1, h2⟩
      · rw [h1] at e; cases e
      · rw [h1] at e; cases e; omega
    have cd : cutS (cutS x.l c) (k - c) = cutS x.l k := by
      rw [cut2 (by omega) (by omega) fun u m r e => ?_, show c + (k - c) = k by omega]
      rcases key with ⟨h1, h2, h3⟩ | ⟨m', l', h1, h2⟩
      · rw [h1] at e; cases e
      · rw [h1] at e; cases e; omega
    rw [g, near1, cc]
    refine ⟨?_, ?_, ?_⟩
    · show entAt t x.q (nearS (putS (putS (cutS x.r 1) a c) z 1)) = _
      rw [near_put]
      exact he
    · show stepsS t ⟨x.q, cutS x.l c, putS (putS (cutS x.r 1) a c) z 1, x.m - c⟩ (w - c) false x.q = _
      have e1 : stepsS t ⟨x.q, cutS x.l c, putS (putS (cutS x.r 1) a c) z 1, x.m - c⟩ (w - c) false x.q = 1 + runS (cutS x.l c) z (w - c - 1) := by
        simp [stepsS, near_put]
      rw [e1]
      rcases key with ⟨h1, h2, h3⟩ | ⟨m, l', h1, h2⟩
      · rw [h1, cutS_n]
        simp [runS, h2]
        omega
      · have hok := h.l
        rw [h1] at hok ⊢
        rw [cutS_c (by omega)]
        by_cases c1 : c < m
        · rw [if_pos c1]
          simp [runS]
          omega
        · rw [if_neg c1]
          have hne := hok.1.2.1
          have : runS l' z (w - c - 1) = 0 := by
            cases l' with
            | nil =>
              have := hok.hd0 rfl
              dsimp only at this
              simp [runS, this]
            | cons y l' =>
              obtain ⟨u, m2⟩ := y
              have : ¬ u = z := by simpa [heads] using hne
              simp [runS, this]
          rw [this]
          omega
    · show (⟨x.q, cutS (cutS (cutS x.l c) (1 + k - c - 1)) 1, putS (putS (cutS (putS (putS (cutS x.r 1) a c) z 1) 1) a (1 + k - c)) (nearS (cutS (cutS x.l c) (1 + k - c - 1))) 1, x.m - c - (1 + k - c)⟩ : Rb) = ⟨x.q, cutS (cutS x.l (1 + k - 1)) 1, putS (putS (cutS x.r 1) a (1 + k)) (nearS (cutS x.l (1 + k - 1))) 1, x.m - (1 + k)⟩
      rw [cut_put hrow, show 1 + k - c - 1 = k - c by omega, cd, show 1 + k - 1 = k by omega, put2 hc (by omega), show c + (1 + k - c) = 1 + k by omega, show x.m - c - (1 + k - c) = x.m - (1 + k) by omega]
  · -- to the right
    have e0 : stepsS t x w true x.q = runS x.r (nearS x.r) w := by simp [stepsS]
    rw [e0] at hn ⊢
    have g : goS x (a, true, x.q) c = ⟨x.q, putS x.l a c, cutS x.r c, x.m + c⟩ := rfl
    generalize hk : runS x.r (nearS x.r) w = k at *
    have key : (x.r = [] ∧ k = w) ∨ ∃ u m r', x.r = (u, m) :: r' ∧ k = min w m := by
      cases hl : x.r with
      | nil => rw [hl] at hk; simp [runS, nearS] at hk; exact .inl ⟨rfl, hk.symm⟩
      | cons y r' =>
        obtain ⟨u, m⟩ := y
        rw [hl] at hk
        simp [runS, nearS] at hk
        exact .inr ⟨u, m, r', rfl, hk.symm⟩
    have cd : cutS (cutS x.r c) (k - c) = cutS x.r k := by
      rw [cut2 (by omega) (by omega) fun u m r e => ?_, show c + (k - c) = k by omega]
      rcases key with ⟨h1, h3⟩ | ⟨u', m', l', h1, h2⟩
      · rw [h1] at e; cases e
      · rw [h1] at e; cases e; omega
    have near1 : nearS (cutS x.r c) = nearS x.r := by
      rcases key with ⟨h1, h3⟩ | ⟨u, m, r', h1, h2⟩
      · rw [h1, cutS_n]
      · rw [h1, cutS_c hc, if_pos (by omega)]; rfl
    rw [g]
    refine ⟨?_, ?_, ?_⟩
    · show entAt t x.q (nearS (cutS x.r c)) = _
      rw [near1]
      exact he
    · have e1 : stepsS t ⟨x.q, putS x.l a c, cutS x.r c, x.m + c⟩ (w - c) true x.q = runS (cutS x.r c) (nearS (cutS x.r c)) (w - c) := by simp [stepsS]
      rw [e1, near1]
      rcases key with ⟨h1, h3⟩ | ⟨u, m, r', h1, h2⟩
      · rw [h1, cutS_n]
        simp [runS, nearS]
        omega
      · rw [h1, cutS_c hc, if_pos (by omega)]
        simp [runS, nearS]
        omega
    · show (⟨x.q, putS (putS x.l a c) a (k - c), cutS (cutS x.r c) (k - c), x.m + c + (k - c)⟩ : Rb) = ⟨x.q, putS x.l a k, cutS x.r k, x.m + k⟩
      rw [cd, put2 hc (by omega), show c + (k - c) = k by omega, show x.m + c + (k - c) = x.m + k by omega]
end My

namespace My
open PySem PySem.Spec PyProof.Rows L2 VL
theorem fast_s {t : Tab} {k : Nat} {x : Rb} {w : Int} : fastS t (k + 1) x w = if w ≤ 0 then some (x, 0, 0) else match leapS t x w with
    | none => some (x, 0, 0)
    | some (y, n) => (fastS t k y (w - n)).map fun z => (z.1, n + z.2.1, z.2.2 + 1) := rfl
theorem leap_none {t : Tab} {x : Rb} {w : Int} : leapS t x w = none ↔ entAt t x.q (nearS x.r) = none := by
  unfold leapS
  split
  · rename_i e; exact ⟨fun _ => e, fun _ => rfl⟩
  · rename_i a r s e; exact ⟨fun h => (nomatch h), fun h => by rw [e] at h; cases h⟩
theorem leap_some {t : Tab} {x : Rb} {w : Int} {a s : Int} {r : Bool} (e : entAt t x.q (nearS x.r) = some (a, r, s)) : leapS t x w = some (goS x (a, r, s) (stepsS t x w r s), stepsS t x w r s) := by
  unfold leapS
  rw [e]
theorem fast_mono1 {t : Tab} : ∀ {k : Nat} {x : Rb} {w : Int} {z : Rb × Int × Nat}, fastS t k x w = some z → fastS t (k + 1) x w = some z
  | 0, x, w, z, h => by
    unfold fastS at h
    split at h
    · rename_i c
      rw [fast_s]
      by_cases c1 : w ≤ 0
      · rw [if_pos c1]; exact h
      · have e := (leap_none (w := w)).mpr (c.resolve_left c1)
        rw [if_neg c1, e]
        exact h
    · cases h
  | k + 1, x, w, z, h => by
    rw [fast_s] at h ⊢
    by_cases c1 : w ≤ 0
    · rw [if_pos c1] at h ⊢; exact h
    · rw [if_neg c1] at h ⊢
      cases e : leapS t x w with
      | none => rw [e] at h; exact h
      | some y =>
        obtain ⟨y, n⟩ := y
        rw [e] at h
        dsimp only at h ⊢
        cases e2 : fastS t k y (w - n) with
        | none => rw [e2] at h; cases h
        | some z' => rw [e2] at h; rw [fast_mono1 e2]; exact h
theorem fast_mono {t : Tab} {k k' : Nat} {x : Rb} {w : Int} {z : Rb × Int × Nat} (h : fastS t k x w = some z) (e : k ≤ k') : fastS t k' x w = some z := by
  induction e with
  | refl => exact h
  | step _ ih => exact fast_mono1 ih
/-- what holds behind so many leaps -/
theorem fast_ok {t : Tab} {st sg : Nat} (ht : TabOk t st sg) : ∀ {k : Nat} {x : Rb} {w : Int} {z : Rb × Int × Nat}, RbOk x st sg → fastS t k x w = some z → RbOk z.1 st sg ∧ 0 ≤ z.2.1 ∧ (0 ≤ w → z.2.1 ≤ w) ∧ z.2.2 ≤ k ∧ z.1.l.length ≤ x.l.length + 2 * k ∧ z.1.r.length ≤ x.r.length + 2 * k
  | 0, x, w, z, hx, h => by
    unfold fastS at h
    split at h
    · cases h; exact ⟨hx, by simp, fun h => h, by simp, by simp, by simp⟩
    · cases h
  | k + 1, x, w, z, hx, h => by
    rw [fast_s] at h
    by_cases c1 : w ≤ 0
    · rw [if_pos c1] at h; cases h; exact ⟨hx, by simp, fun h => h, by simp, by show x.l.length ≤ _; omega, by show x.r.length ≤ _; omega⟩
    · rw [if_neg c1] at h
      cases e : entAt t x.q (nearS x.r) with
      | none => rw [leap_none.mpr e] at h; cases h; exact ⟨hx, by simp, fun h => h, by simp, by show x.l.length ≤ _; omega, by show x.r.length ≤ _; omega⟩
      | some en =>
        obtain ⟨a, r, s⟩ := en
        rw [leap_some e] at h
        dsimp only at h
        have hs := stepsS_ok (t := t) hx (w := w) (by omega) r s
        generalize stepsS t x w r s = n at *
        have hg := goS_ok ht hx e hs.1
        have hl := goS_len (x := x) (e := (a, r, s)) (n := n)
        cases e2 : fastS t k (goS x (a, r, s) n) (w - n) with
        | none => rw [e2] at h; cases h
        | some z' =>
          rw [e2] at h
          cases h
          obtain ⟨k1, k2, k3, k4, k5, k6⟩ := fast_ok ht hg e2
          refine ⟨k1, ?_, fun _ => ?_, ?_, ?_, ?_⟩
          · show 0 ≤ n + z'.2.1; omega
          · show n + z'.2.1 ≤ w; have := k3 (by omega); omega
          · show z'.2.2 + 1 ≤ k + 1; omega
          · show z'.1.l.length ≤ _; omega
          · show z'.1.r.length ≤ _; omega
theorem fast_stop {t : Tab} {k : Nat} {x : Rb} {w : Int} (h : w ≤ 0 ∨ entAt t x.q (nearS x.r) = none) : fastS t k x w = some (x, 0, 0) := by
  cases k with
  | zero => unfold fastS; rw [if_pos h]
  | succ k =>
    rw [fast_s]
    by_cases c : w ≤ 0
    · rw [if_pos c]
    · rw [if_neg c, leap_none.mpr (h.resolve_left c)]
/-- the same in two parts -/
theorem fast_split {t : Tab} {st sg : Nat} (ht : TabOk t st sg) : ∀ {k : Nat} {x : Rb} {w : Int} {z : Rb × Int × Nat}, RbOk x st sg → fastS t k x w = some z → ∀ {c : Int}, 0 ≤ c → c ≤ w →
    ∃ (y : Rb) (d1 d2 : Int) (l1 l2 : Nat), (∀ k' ≥ k + 1, fastS t k' x c = some (y, d1, l1)) ∧ (∀ k' ≥ k + 1, fastS t k' y (w - c) = some (z.1, d2, l2)) ∧ d1 + d2 = z.2.1 ∧ (l1 + l2 = z.2.2 ∨ l1 + l2 = z.2.2 + 1) ∧ d1 ≤ c
  | 0, x, w, z, hx, h, c, hc, hw => by
    unfold fastS at h
    split at h
    · rename_i g
      cases h
      exact ⟨x, 0, 0, 0, 0, fun k' _ => fast_stop (g.imp (fun _ => by omega) id), fun k' _ => fast_stop (g.imp (fun _ => by omega) id), rfl, .inl rfl, hc⟩
    · cases h
  | k + 1, x, w, z, hx, h, c, hc, hw => by
    have h' := h
    rw [fast_s] at h
    by_cases c1 : w ≤ 0
    · rw [if_pos c1] at h
      cases h
      exact ⟨x, 0, 0, 0, 0, fun k' _ => fast_stop (.inl (by omega)), fun k' _ => fast_stop (.inl (by omega)), rfl, .inl rfl, hc⟩
    · rw [if_neg c1] at h
      cases e : entAt t x.q (nearS x.r) with
      | none =>
        rw [leap_none.mpr e] at h
        cases h
        exact ⟨x, 0, 0, 0, 0, fun k' _ => fast_stop (.inr e), fun k' _ => fast_stop (.inr e), rfl, .inl rfl, hc⟩
      | some en =>
        obtain ⟨a, r, s⟩ := en
        by_cases c0 : c = 0
        · subst c0
          exact ⟨x, 0, z.2.1, 0, z.2.2, fun k' _ => fast_stop (.inl (by decide)), fun k' hk => by rw [Int.sub_zero]; exact fast_mono h' (by omega), by omega, .inl (by omega), by omega⟩
        · rw [leap_some e] at h
          dsimp only at h
          have hs := stepsS_ok (t := t) hx (w := w) (by omega) r s
          have hmin := steps_min (t := t) hx (c := c) (w := w) (by omega) hw r s
          have g2 := fun hn => go2 (w := w) (c := c) ht hx e (by omega) hn
          generalize stepsS t x w r s = n at *
          have hg := goS_ok ht hx e hs.1
          cases e2 : fastS t k (goS x (a, r, s) n) (w - n) with
          | none => rw [e2] at h; cases h
          | some z' =>
            rw [e2] at h
            cases h
            by_cases cn : n ≤ c
            · have en : stepsS t x c r s = n := by rw [hmin]; omega
              obtain ⟨y, d1, d2, l1, l2, p1, p2, p3, p4, p5⟩ := fast_split ht hg e2 (c := c - n) (by omega) (by omega)
              refine ⟨y, n + d1, d2, l1 + 1, l2, fun k' hk => ?_, fun k' hk => ?_, ?_, ?_, by omega⟩
              · obtain ⟨j, rfl⟩ := Nat.exists_eq_add_of_le hk
                rw [show k + 1 + 1 + j = (k + 1 + j) + 1 by omega, fast_s, if_neg (by omega), leap_some e, en]
                dsimp only
                rw [p1 (k + 1 + j) (by omega)]
                rfl
              · rw [show w - c = w - n - (c - n) by omega]
                exact p2 k' (by omega)
              · show n + d1 + d2 = n + z'.2.1; omega
              · show l1 + 1 + l2 = z'.2.2 + 1 ∨ l1 + 1 + l2 = z'.2.2 + 1 + 1; omega
            · have en : stepsS t x c r s = c := by rw [hmin]; omega
              obtain ⟨q1, q2, q3⟩ := g2 (by omega)
              refine ⟨goS x (a, r, s) c, c, n - c + z'.2.1, 1, z'.2.2 + 1, fun k' hk => ?_, fun k' hk => ?_, ?_, .inr ?_, by omega⟩
              · obtain ⟨j, rfl⟩ := Nat.exists_eq_add_of_le hk
                rw [show k + 1 + 1 + j = (k + 1 + j) + 1 by omega, fast_s, if_neg (by omega), leap_some e, en]
                dsimp only
                rw [fast_stop (.inl (by omega))]
                simp
              · obtain ⟨j, rfl⟩ := Nat.exists_eq_add_of_le hk
                rw [show k + 1 + 1 + j = (k + 1 + j) + 1 by omega, fast_s, if_neg (by omega), leap_some q1, q2]
                dsimp only
                rw [q3, show w - c - (n - c) = w - n by omega, fast_mono e2 (by omega)]
                rfl
              · show c + (n - c + z'.2.1) = n + z'.2.1; omega
              · show 1 + (z'.2.2 + 1) = z'.2.2 + 1 + 1; omega
/-- seen from another place -/
def offS (x : Rb) (d : Int) : Rb := ⟨x.q, x.l, x.r, x.m + d⟩
theorem go_off {x : Rb} {e : Int × Bool × Int} {n d : Int} : goS (offS x d) e n = offS (goS x e n) d := by
  unfold goS
  split
  · show (⟨e.2.2, putS x.l e.1 n, cutS x.r n, x.m + d + n⟩ : Rb) = ⟨e.2.2, putS x.l e.1 n, cutS x.r n, x.m + n + d⟩
    rw [show x.m + d + n = x.m + n + d by omega]
  · show (⟨e.2.2, cutS (cutS x.l (n - 1)) 1, putS (putS (cutS x.r 1) e.1 n) (nearS (cutS x.l (n - 1))) 1, x.m + d - n⟩ : Rb) = ⟨e.2.2, cutS (cutS x.l (n - 1)) 1, putS (putS (cutS x.r 1) e.1 n) (nearS (cutS x.l (n - 1))) 1, x.m - n + d⟩
    rw [show x.m + d - n = x.m - n + d by omega]
theorem fast_off {t : Tab} {d : Int} : ∀ {k : Nat} {x : Rb} {w : Int}, fastS t k (offS x d) w = (fastS t k x w).map fun z => (offS z.1 d, z.2)
  | 0, x, w => by
    unfold fastS
    show (if w ≤ 0 ∨ entAt t x.q (nearS x.r) = none then _ else _) = _
    split <;> rfl
  | k + 1, x, w => by
    rw [fast_s, fast_s]
    by_cases c : w ≤ 0
    · rw [if_pos c, if_pos c]; rfl
    · rw [if_neg c, if_neg c]
      cases e : entAt t x.q (nearS x.r) with
      | none =>
        have e' : entAt t (offS x d).q (nearS (offS x d).r) = none := e
        rw [leap_none.mpr e, leap_none.mpr e']
        rfl
      | some en =>
        obtain ⟨a, r, s⟩ := en
        have e' : entAt t (offS x d).q (nearS (offS x d).r) = some (a, r, s) := e
        rw [leap_some e, leap_some e']
        dsimp only
        rw [go_off, show stepsS t (offS x d) w r s = stepsS t x w r s from rfl, fast_off]
        cases fastS t k (goS x (a, r, s) (stepsS t x w r s)) (w - stepsS t x w r s) <;> rfl
end My

namespace My
open PySem PySem.Spec PyProof.Rows L2 VL
def stD (q : Int) (l r : Row) : D := .tup [.int q, rowSD l, rowSD r]
def rbD (A : Cs) (t : Tab) (x : Rb) : D := .obj A.C_Ribbon [("table", tabT t), ("now", .int x.q), ("left", rowSD x.l.reverse), ("right", rowSD x.r.reverse), ("moved", .int x.m)]
def resD (z : Rb × Int × Nat) : D := .tup [stD z.1.q z.1.l z.1.r, .int z.1.m, .int z.2.1, .int z.2.2]
@[simp] theorem rowSD_inj {a b : Row} : rowSD a = rowSD b ↔ a = b := ⟨fun h => map_inj' (f := celD) (fun {x y} e => by
  obtain ⟨x1, x2⟩ := x
  obtain ⟨y1, y2⟩ := y
  simpa [celD] using e) (by simpa [rowSD] using h), fun h => h ▸ rfl⟩
def LenOk (l r : Row) : Prop := l.length ≤ 10000 ∧ r.length ≤ 10000
theorem pd_row (n : Nat) (r : Row) : pdK (n + 2) (rowSD r) = true := by
  unfold rowSD
  rw [pdK_l, List.all_map]
  exact List.all_eq_true.mpr fun x _ => by simp [celD]
theorem RowW.snoc {sg : Nat} {x : Int × Int} : ∀ {row : Row}, RowW sg (row ++ [x]) ↔ RowW sg row ∧ ((0 ≤ x.1 ∧ x.1 < sg) ∧ 1 ≤ x.2) ∧ ∀ y, row.getLast? = some y → x.1 ≠ y.1
  | [] => by simp [RowW, heads]
  | [z] => by
    simp [RowW, heads]
    intro _ _ _
    exact And.comm
  | z :: u :: r => by
    have ih := RowW.snoc (sg := sg) (x := x) (row := u :: r)
    have e : RowW sg (z :: u :: r ++ [x]) ↔ ((0 ≤ z.1 ∧ z.1 < sg) ∧ 1 ≤ z.2) ∧ heads (u :: r) ≠ some z.1 ∧ RowW sg (u :: r ++ [x]) := Iff.rfl
    have e2 : RowW sg (z :: u :: r) ↔ ((0 ≤ z.1 ∧ z.1 < sg) ∧ 1 ≤ z.2) ∧ heads (u :: r) ≠ some z.1 ∧ RowW sg (u :: r) := Iff.rfl
    rw [e, e2, ih, List.getLast?_cons_cons]
    constructor
    · rintro ⟨h1, h2, h3, h4, h5⟩
      exact ⟨⟨h1, h2, h3⟩, h4, h5⟩
    · rintro ⟨⟨h1, h2, h3⟩, h4, h5⟩
      exact ⟨h1, h2, h3, h4, h5⟩
end My

namespace My
open PySem PySem.Spec PyProof.Rows L2 VL
theorem rise_ext : ∀ {a b : Cells}, a.Pairwise (fun u v => u.1 < v.1) → b.Pairwise (fun u v => u.1 < v.1) → (∀ z, z ∈ a ↔ z ∈ b) → a = b
  | [], [], _, _, _ => rfl
  | [], y :: b, _, _, h => absurd ((h y).mpr List.mem_cons_self) List.not_mem_nil
  | x :: a, [], _, _, h => absurd ((h x).mp List.mem_cons_self) List.not_mem_nil
  | x :: a, y :: b, ha, hb, h => by
    obtain ⟨ha1, ha2⟩ := List.pairwise_cons.mp ha
    obtain ⟨hb1, hb2⟩ := List.pairwise_cons.mp hb
    have e : x = y := by
      rcases List.mem_cons.mp ((h x).mp List.mem_cons_self) with e | e
      · exact e
      · rcases List.mem_cons.mp ((h y).mpr List.mem_cons_self) with e' | e'
        · exact e'.symm
        · have h1 := hb1 x e
          have h2 := ha1 y e'
          omega
    subst e
    rw [rise_ext ha2 hb2 fun z => ⟨fun hz => ?_, fun hz => ?_⟩]
    · rcases List.mem_cons.mp ((h z).mp (List.mem_cons_of_mem _ hz)) with e | e
      · subst e
        have := ha1 z hz
        omega
      · exact e
    · rcases List.mem_cons.mp ((h z).mpr (List.mem_cons_of_mem _ hz)) with e | e
      · subst e
        have := hb1 z hz
        omega
      · exact e
theorem sortC_rise {c : Cells} (hn : (c.map (·.1)).Nodup) : (sortC c).Pairwise fun a b => a.1 < b.1 := by
  have h := sortC_of hn
  have h2 : ((sortC c).map (·.1)).Nodup := (h.1.map (·.1)).nodup_iff.mpr hn
  rw [List.nodup_iff_pairwise_ne, List.pairwise_map] at h2
  exact (h.2.and h2).imp fun ⟨a, b⟩ => by omega
structure Near (n : Nat) (x : Cf) : Prop where
  p : -(n : Int) ≤ x.p ∧ x.p ≤ n
  c : ∀ y ∈ x.c, y.2 ≠ 0 ∧ -(n : Int) ≤ y.1 ∧ y.1 ≤ n
  n : (x.c.map (·.1)).Nodup
theorem cPut_mem {c : Cells} {p s : Int} {y : Int × Int} (h : y ∈ cPut c p s) : y ∈ c ∨ y = (p, s) := by
  unfold cPut at h
  split at h
  · obtain ⟨x, hx, rfl⟩ := List.mem_map.mp h
    split
    · rename_i e; subst e; exact .inr rfl
    · exact .inl hx
  · rcases List.mem_append.mp h with q | q
    · exact .inl q
    · simp at q; exact .inr q
theorem step_near {t : Tab} {n : Nat} {x y : Cf} (h : Near n x) (e : stepC t x = some y) : Near (n + 1) y := by
  have hp := h.p
  unfold stepC at e
  split at e
  · cases e
  · rename_i w r s hent
    cases e
    refine ⟨?_, ?_, ?_⟩
    · show -((n + 1 : Nat) : Int) ≤ (if r = true then x.p + 1 else x.p - 1) ∧ (if r = true then x.p + 1 else x.p - 1) ≤ ((n + 1 : Nat) : Int)
      split <;> omega
    · intro y hy
      by_cases cw : w = 0
      · simp only [if_pos cw] at hy
        have := h.c y (List.mem_filter.mp hy).1
        omega
      · simp only [if_neg cw] at hy
        rcases cPut_mem hy with q | rfl
        · have := h.c y q
          omega
        · show w ≠ 0 ∧ -((n + 1 : Nat) : Int) ≤ x.p ∧ x.p ≤ ((n + 1 : Nat) : Int)
          omega
    · by_cases cw : w = 0
      · simp only [if_pos cw]; exact cDrop_nd h.n
      · simp only [if_neg cw]; exact cPut_nd h.n
theorem Near.le {n m : Nat} {x : Cf} (h : Near n x) (e : n ≤ m) : Near m x := ⟨by have := h.p; omega, fun y hy => by have := h.c y hy; omega, h.n⟩
theorem run_near {t : Tab} : ∀ {k n : Nat} {x : Cf}, Near n x → Near (n + k) (runC t k x).2
  | 0, n, x, h => h
  | k + 1, n, x, h => by
    cases e : stepC t x with
    | none => rw [runC_n e]; exact h.le (by omega)
    | some y =>
      rw [runC_s e]
      exact (run_near (k := k) (step_near h e)).le (by omega)
theorem near0 : Near 0 cf0 := ⟨⟨by decide, by decide⟩, fun y hy => (nomatch hy), by simp [cf0]⟩
theorem near_run (t : Tab) (k : Nat) : Near k (runC t k cf0).2 := (run_near (t := t) (k := k) near0).le (by omega)
theorem mem_cells {n : Nat} {x : Cf} (h : Near n x) {k v : Int} : (k, v) ∈ x.c ↔ v ≠ 0 ∧ cAt x.c k = v := by
  constructor
  · intro hm
    exact ⟨(h.c _ hm).1, cAt_of h.n hm⟩
  · rintro ⟨h1, h2⟩
    unfold cAt cGet at h2
    cases e : x.c.find? fun y => decide (y.1 = k) with
    | none => rw [e] at h2; exact absurd h2.symm h1
    | some y =>
      rw [e] at h2
      have h3 := List.find?_some e
      have h4 := List.mem_of_find?_eq_some e
      simp at h2 h3
      obtain ⟨y1, y2⟩ := y
      simp at h2 h3
      subst h2; subst h3
      exact h4
theorem cAt_put {c : Cells} {p s a : Int} : cAt (cPut c p s) a = if a = p then s else cAt c a := by
  by_cases e : a = p
  · subst e
    rw [if_pos rfl]
    unfold cAt
    rw [cGet_put]
    rfl
  · rw [if_neg e]
    unfold cAt
    congr 1
    unfold cPut
    split
    · rename_i h
      clear h
      unfold cGet
      congr 1
      induction c with
      | nil => rfl
      | cons x c ih =>
        rw [List.map_cons, List.find?_cons, List.find?_cons]
        by_cases hx : x.1 = p
        · have h2 : decide (x.1 = a) = false := by simp; omega
          simp only [if_pos hx, h2]
          exact ih
        · simp only [if_neg hx]
          by_cases h3 : x.1 = a
          · simp [h3]
          · have h2 : decide (x.1 = a) = false := by simp [h3]
            simp only [h2]
            exact ih
    · unfold cGet
      rw [List.find?_append]
      have : List.find? (fun x : Int × Int => decide (x.1 = a)) [(p, s)] = none := by simp; omega
      rw [this]
      simp
theorem cAt_drop {c : Cells} {p a : Int} : cAt (cDrop c p) a = if a = p then 0 else cAt c a := by
  unfold cDrop
  by_cases e : a = p
  · subst e
    rw [if_pos rfl]
    unfold cAt cGet
    have : List.find? (fun x : Int × Int => decide (x.1 = a)) (c.filter fun x => decide (x.1 ≠ a)) = none := by
      rw [List.find?_eq_none]
      intro y hy
      have := (List.mem_filter.mp hy).2
      simpa using this
    rw [this]
    rfl
  · rw [if_neg e]
    unfold cAt cGet
    congr 2
    induction c with
    | nil => rfl
    | cons x c ih =>
      by_cases hx : x.1 = p
      · have h2 : decide (x.1 = a) = false := by simp; omega
        simp only [List.filter_cons, List.find?_cons, h2]
        simpa [hx] using ih
      · have h3 : decide (x.1 ≠ p) = true := by simp [hx]
        simp only [List.filter_cons, h3, if_true, List.find?_cons]
        cases decide (x.1 = a) with
        | true => rfl
        | false => exact ih
theorem step_at {t : Tab} {x y : Cf} (e : stepC t x = some y) : ∃ w r s, entAt t x.q (cAt x.c x.p) = some (w, r, s) ∧ y.q = s ∧ y.p = (if r then x.p + 1 else x.p - 1) ∧ ∀ a, cAt y.c a = if a = x.p then w else cAt x.c a := by
  unfold stepC at e
  split at e
  · cases e
  · rename_i w r s hent
    cases e
    refine ⟨w, r, s, hent, rfl, rfl, fun a => ?_⟩
    by_cases cw : w = 0
    · simp only [if_pos cw]
      rw [cAt_drop, cw]
    · simp only [if_neg cw]
      rw [cAt_put]
theorem step_some {t : Tab} {x : Cf} {en : Int × Bool × Int} (e : entAt t x.q (cAt x.c x.p) = some en) : ∃ y, stepC t x = some y := by
  unfold stepC
  rw [e]
  exact ⟨_, rfl⟩

theorem runC_two {t : Tab} : ∀ {a b : Nat} {x : Cf}, runC t (a + b) x = ((runC t a x).1 + (runC t b (runC t a x).2).1, (runC t b (runC t a x).2).2)
  | 0, b, x => by simp [runC]
  | a + 1, b, x => by
    cases e : stepC t x with
    | none =>
      rw [runC_n e, runC_n e]
      simp [runC_n e]
    | some y =>
      have e2 : a + 1 + b = (a + b) + 1 := by omega
      rw [e2, runC_s e, runC_s e, runC_two (a := a)]
      simp
      omega
end My

namespace My
open PySem PySem.Spec PyProof.Rows L2 VL
/-! ### stretches and cells -/
def nthS : Row → Nat → Int
  | [], _ => 0
  | (s, n) :: r, i => if (i : Int) < n then s else nthS r (i - n.toNat)
theorem nthS_c {s n : Int} {r : Row} {i : Nat} : nthS ((s, n) :: r) i = if (i : Int) < n then s else nthS r (i - n.toNat) := rfl
theorem nthS_0 {sg : Nat} {row : Row} (h : RowW sg row) : nthS row 0 = nearS row := by
  cases row with
  | nil => rfl
  | cons x r =>
    obtain ⟨u, m⟩ := x
    have := h.1.2
    dsimp only at this
    rw [nthS_c, if_pos (by omega)]
    rfl
theorem nthS_cut {sg : Nat} {row : Row} (h : RowW sg row) (i : Nat) : nthS (cutS row 1) i = nthS row (i + 1) := by
  cases row with
  | nil => rw [cutS_n]; rfl
  | cons x r =>
    obtain ⟨u, m⟩ := x
    have := h.1.2
    dsimp only at this
    rw [cutS_c (by decide), nthS_c]
    by_cases c : 1 < m
    · rw [if_pos c, nthS_c]
      by_cases d : (i : Int) < m - 1
      · rw [if_pos d, if_pos (by omega)]
      · rw [if_neg d, if_neg (by omega)]
        congr 1
        omega
    · rw [if_neg c, if_neg (by omega)]
      congr 1
      omega
theorem nthS_put0 {sg : Nat} {row : Row} (h : RowW sg row) (a : Int) : nthS (putS row a 1) 0 = a := by
  unfold putS
  split
  · rename_i c
    rcases c with c | ⟨c, rfl⟩
    · omega
    · exact c.symm
  · cases row with
    | nil => rfl
    | cons x r =>
      obtain ⟨u, m⟩ := x
      have := h.1.2
      dsimp only at this
      by_cases c : u = a
      · simp only [c, if_true]
        rw [nthS_c, if_pos (by omega)]
      · simp only [c, if_false]
        rw [nthS_c, if_pos (by decide)]
theorem nthS_put1 {sg : Nat} {row : Row} (h : RowW sg row) (a : Int) (i : Nat) : nthS (putS row a 1) (i + 1) = nthS row i := by
  unfold putS
  split
  · rename_i c
    rcases c with c | ⟨c, rfl⟩
    · omega
    · rfl
  · cases row with
    | nil =>
      show nthS [(a, 1)] (i + 1) = 0
      rw [nthS_c, if_neg (by omega)]
      rfl
    | cons x r =>
      obtain ⟨u, m⟩ := x
      have := h.1.2
      dsimp only at this
      by_cases c : u = a
      · simp only [c, if_true]
        rw [nthS_c, nthS_c]
        by_cases d : (i : Int) < m
        · rw [if_pos d, if_pos (by omega)]
        · rw [if_neg d, if_neg (by omega)]
          congr 1
          omega
      · simp only [c, if_false]
        rw [nthS_c, if_neg (by omega)]
        rfl
/-- a machine on stretches, and on cells -/
structure Rep (x : Rb) (y : Cf) : Prop where
  q : y.q = x.q
  p : y.p = x.m
  r : ∀ i : Nat, cAt y.c (x.m + i) = nthS x.r i
  l : ∀ i : Nat, cAt y.c (x.m - 1 - i) = nthS x.l i
theorem Rep.rd {x : Rb} {y : Cf} {st sg : Nat} (h : Rep x y) (hx : RbOk x st sg) : cAt y.c y.p = nearS x.r := by
  have := h.r 0
  rw [nthS_0 hx.r.1] at this
  rw [h.p, ← this]
  congr 1
  simp
theorem rep_step {t : Tab} {st sg : Nat} {x : Rb} {y : Cf} (ht : TabOk t st sg) (hx : RbOk x st sg) (h : Rep x y) {a s : Int} {rr : Bool} (e : entAt t x.q (nearS x.r) = some (a, rr, s)) : ∃ y', stepC t y = some y' ∧ Rep (goS x (a, rr, s) 1) y' := by
  have e' : entAt t y.q (cAt y.c y.p) = some (a, rr, s) := by rw [h.q, h.rd hx]; exact e
  obtain ⟨y', ey⟩ := step_some e'
  obtain ⟨w, r2, s2, a1, a2, a3, a4⟩ := step_at ey
  rw [e'] at a1
  cases a1
  refine ⟨y', ey, ?_⟩
  have hp := h.p
  cases rr
  · have a3 : y'.p = x.m - 1 := by rw [a3, hp]; rfl
    show Rep ⟨s, cutS (cutS x.l (1 - 1)) 1, putS (putS (cutS x.r 1) a 1) (nearS (cutS x.l (1 - 1))) 1, x.m - 1⟩ y'
    have c0 : cutS x.l (1 - 1) = x.l := cutS_0
    rw [c0]
    have hr1 : RowOk sg (cutS x.r 1) := cutS_ok (n := 1) hx.r (by decide)
    have h0 := nearS_ok hx.r ht.sg0
    have he := ent_ok ht hx.q.1 hx.q.2 h0.1 h0.2
    rw [e] at he
    have hr2 : RowW sg (putS (cutS x.r 1) a 1) := (putS_ok (n := 1) hr1 he.1 (by decide)).1
    refine ⟨a2, a3, fun i => ?_, fun i => ?_⟩
    · show cAt y'.c (x.m - 1 + i) = nthS (putS (putS (cutS x.r 1) a 1) (nearS x.l) 1) i
      rw [a4]
      match i with
      | 0 =>
        rw [if_neg (by rw [hp]; omega), nthS_put0 hr2, ← nthS_0 hx.l.1, ← h.l 0]
        congr 1
      | 1 =>
        rw [if_pos (by rw [hp]; omega), nthS_put1 hr2, nthS_put0 hr1.1]
      | i + 2 =>
        rw [if_neg (by rw [hp]; omega), nthS_put1 hr2, nthS_put1 hr1.1, nthS_cut hx.r.1, ← h.r]
        congr 1
        omega
    · show cAt y'.c (x.m - 1 - 1 - i) = nthS (cutS x.l 1) i
      rw [a4, if_neg (by rw [hp]; omega), nthS_cut hx.l.1, ← h.l]
      congr 1
      omega
  · have a3 : y'.p = x.m + 1 := by rw [a3, hp]; rfl
    show Rep ⟨s, putS x.l a 1, cutS x.r 1, x.m + 1⟩ y'
    refine ⟨a2, a3, fun i => ?_, fun i => ?_⟩
    · show cAt y'.c (x.m + 1 + i) = nthS (cutS x.r 1) i
      rw [a4, if_neg (by rw [hp]; omega), nthS_cut hx.r.1, ← h.r]
      congr 1
      omega
    · show cAt y'.c (x.m + 1 - 1 - i) = nthS (putS x.l a 1) i
      rw [a4]
      cases i with
      | zero => rw [if_pos (by rw [hp]; omega), nthS_put0 hx.l.1]
      | succ i =>
        rw [if_neg (by rw [hp]; omega), nthS_put1 hx.l.1, ← h.l]
        congr 1
        omega
/-- within a leap the machine reads the same -/
theorem go_near {t : Tab} {x : Rb} {st sg : Nat} (ht : TabOk t st sg) (h : RbOk x st sg) {a s w c : Int} {rr : Bool} (he : entAt t x.q (nearS x.r) = some (a, rr, s)) (hc : 1 ≤ c) (hn : c < stepsS t x w rr s) :
    (goS x (a, rr, s) c).q = x.q ∧ nearS (goS x (a, rr, s) c).r = nearS x.r := by
  have hs : s = x.q := by
    unfold stepsS at hn
    split at hn
    · assumption
    · omega
  subst hs
  cases rr
  · have e0 : stepsS t x w false x.q = 1 + runS x.l (nearS x.r) (w - 1) := by simp [stepsS]
    rw [e0] at hn
    refine ⟨rfl, ?_⟩
    show nearS (putS (putS (cutS x.r 1) a c) (nearS (cutS x.l (c - 1))) 1) = _
    rw [near_put]
    cases hl : x.l with
    | nil =>
      rw [hl] at hn
      unfold runS at hn
      dsimp only at hn
      split at hn
      · rename_i c0; rw [cutS_n]; exact c0.symm
      · omega
    | cons y l' =>
      obtain ⟨u, m⟩ := y
      rw [hl] at hn
      unfold runS at hn
      dsimp only at hn
      split at hn
      · rename_i c0
        by_cases c1 : c = 1
        · subst c1; rw [show (1 : Int) - 1 = 0 from rfl, cutS_0]; exact c0
        · rw [cutS_c (by omega), if_pos (by omega)]; exact c0
      · omega
  · have e0 : stepsS t x w true x.q = runS x.r (nearS x.r) w := by simp [stepsS]
    rw [e0] at hn
    refine ⟨rfl, ?_⟩
    show nearS (cutS x.r c) = _
    cases hl : x.r with
    | nil => rw [cutS_n]
    | cons y r' =>
      obtain ⟨u, m⟩ := y
      rw [hl] at hn
      simp [runS, nearS] at hn
      rw [cutS_c hc, if_pos (by omega)]
      rfl
/-- behind a whole leap it reads otherwise -/
theorem go_far {t : Tab} {x : Rb} {st sg : Nat} (h : RbOk x st sg) {a s w : Int} {rr : Bool} (hw : 1 ≤ w) (hn : stepsS t x w rr s < w) :
    ¬ ((goS x (a, rr, s) (stepsS t x w rr s)).q = x.q ∧ nearS (goS x (a, rr, s) (stepsS t x w rr s)).r = nearS x.r) := by
  rintro ⟨h1, h2⟩
  have hs : s = x.q := by cases rr <;> exact h1
  subst hs
  have tail : ∀ {u m : Int} {r : Row}, RowOk sg ((u, m) :: r) → nearS r = u → False := fun {u m r} g e => by
    cases r with
    | nil => exact g.hd0 rfl e.symm
    | cons z r =>
      have := g.1.2.1
      exact this (by simp [heads]; exact e)
  cases rr
  · have e0 : stepsS t x w false x.q = 1 + runS x.l (nearS x.r) (w - 1) := by simp [stepsS]
    rw [e0] at hn h2
    have h2 : nearS (putS (putS (cutS x.r 1) a (1 + runS x.l (nearS x.r) (w - 1))) (nearS (cutS x.l (1 + runS x.l (nearS x.r) (w - 1) - 1))) 1) = nearS x.r := h2
    rw [near_put, show 1 + runS x.l (nearS x.r) (w - 1) - 1 = runS x.l (nearS x.r) (w - 1) by omega] at h2
    have hl := h.l
    cases e : x.l with
    | nil =>
      rw [e, cutS_n] at h2
      rw [e] at hn
      have h2 : (0 : Int) = nearS x.r := h2
      rw [← h2] at hn
      simp [runS] at hn
      omega
    | cons y l' =>
      obtain ⟨u, m⟩ := y
      rw [e] at hn h2 hl
      have hm := hl.1.1.2
      dsimp only at hm
      by_cases c : u = nearS x.r
      · rw [← c] at hn h2
        simp [runS] at hn h2
        have e1 : min (w - 1) m = m := by omega
        rw [e1, cutS_c hm, if_neg (by omega)] at h2
        exact tail hl h2
      · simp [runS, c] at h2
        rw [cutS_0] at h2
        exact c h2
  · have e0 : stepsS t x w true x.q = runS x.r (nearS x.r) w := by simp [stepsS]
    rw [e0] at hn h2
    have h2 : nearS (cutS x.r (runS x.r (nearS x.r) w)) = nearS x.r := h2
    have hl := h.r
    cases e : x.r with
    | nil => rw [e] at hn; simp [runS, nearS] at hn
    | cons y r' =>
      obtain ⟨u, m⟩ := y
      rw [e] at hn h2 hl
      have hm := hl.1.1.2
      dsimp only at hm
      simp [runS, nearS] at hn
      have e1 : runS ((u, m) :: r') (nearS ((u, m) :: r')) w = m := by simp [runS, nearS]; omega
      rw [e1, cutS_c hm, if_neg (by omega)] at h2
      exact tail hl h2
def rdC (y : Cf) : Int × Int := (y.q, cAt y.c y.p)
/-- the cuts between leaps -/
def cutR (prev : Option (Int × Int)) : List Cf → Nat
  | [] => 0
  | [_] => 0
  | c :: d :: r => (if some (rdC c) = prev then 0 else 1) + cutR (some (rdC c)) (d :: r)
theorem cutR_app {ρ : Int × Int} : ∀ {P : List Cf} {prev : Option (Int × Int)} {c : Cf} {r : List Cf}, P ≠ [] → (∀ y ∈ P, rdC y = ρ) → cutR prev (P ++ c :: r) = (if some ρ = prev then 0 else 1) + cutR (some ρ) (c :: r)
  | [], _, _, _, h, _ => absurd rfl h
  | [y], prev, c, r, _, h => by
    have := h y (by simp)
    show (if some (rdC y) = prev then 0 else 1) + cutR (some (rdC y)) (c :: r) = _
    rw [this]
  | y :: z :: P, prev, c, r, _, h => by
    have hy := h y (by simp)
    have ih := cutR_app (ρ := ρ) (P := z :: P) (prev := some ρ) (c := c) (r := r) (by simp) fun u hu => h u (List.mem_cons_of_mem _ hu)
    show (if some (rdC y) = prev then 0 else 1) + cutR (some (rdC y)) (z :: P ++ c :: r) = _
    rw [hy, ih, if_pos rfl, Nat.zero_add]
/-- a leap, step by step -/
theorem leap_rows {t : Tab} {st sg : Nat} (ht : TabOk t st sg) {a s : Int} {rr : Bool} : ∀ {n : Nat} {x : Rb} {y : Cf}, RbOk x st sg → Rep x y → entAt t x.q (nearS x.r) = some (a, rr, s) → stepsS t x (n + 1 : Nat) rr s = (n + 1 : Nat) →
    ∃ y', runC t (n + 1) y = (n + 1, y') ∧ Rep (goS x (a, rr, s) (n + 1 : Nat)) y' ∧ ∀ M, ∃ P : List Cf, rowC t (n + 1 + M) y = P ++ rowC t M y' ∧ P ≠ [] ∧ ∀ c ∈ P, rdC c = rdC y
  | 0, x, y, hx, hr, e, hs => by
    obtain ⟨y', e1, r1⟩ := rep_step ht hx hr e
    refine ⟨y', by rw [runC_s e1]; rfl, r1, fun M => ⟨[y], ?_, by simp, by simp⟩⟩
    rw [show 0 + 1 + M = M + 1 by omega, rowC_s e1]
    rfl
  | n + 1, x, y, hx, hr, e, hs => by
    obtain ⟨y1, e1, r1⟩ := rep_step ht hx hr e
    have h2 := go2 (w := ((n + 1 + 1 : Nat) : Int)) (c := 1) ht hx e (by decide) (by rw [hs]; omega)
    have h3 := go_near (w := ((n + 1 + 1 : Nat) : Int)) (c := 1) ht hx e (by decide) (by rw [hs]; omega)
    rw [hs, show ((n + 1 + 1 : Nat) : Int) - 1 = ((n + 1 : Nat) : Int) by omega] at h2
    have g1 := goS_ok ht hx e (n := 1) (by decide)
    obtain ⟨y', k1, k2, k3⟩ := leap_rows ht (n := n) g1 r1 h2.1 h2.2.1
    rw [h2.2.2] at k2
    refine ⟨y', by rw [runC_s e1, k1], k2, fun M => ?_⟩
    obtain ⟨P, p1, p2, p3⟩ := k3 M
    have rd1 : rdC y1 = rdC y := by
      unfold rdC
      rw [r1.rd g1, hr.rd hx, r1.q, hr.q, h3.1, h3.2]
    refine ⟨y :: P, ?_, by simp, fun c hc => ?_⟩
    · rw [show n + 1 + 1 + M = (n + 1 + M) + 1 by omega, rowC_s e1, p1]
      rfl
    · rcases List.mem_cons.mp hc with rfl | hc
      · rfl
      · rw [p3 c hc, rd1]
end My

namespace My
open PySem PySem.Spec PyProof.Rows L2 VL
theorem rep_none {t : Tab} {st sg : Nat} {x : Rb} {y : Cf} (hx : RbOk x st sg) (h : Rep x y) (e : entAt t x.q (nearS x.r) = none) : stepC t y = none := by
  unfold stepC
  rw [h.q, h.rd hx, e]
theorem rowC_ne {t : Tab} {n : Nat} {y : Cf} : ∃ r, rowC t n y = y :: r := ⟨_, rowC_hd t n y⟩
/-- leaps are as many as the cuts -/
theorem fast_cuts {t : Tab} {st sg : Nat} (ht : TabOk t st sg) : ∀ (N W : Nat), W ≤ N → ∀ {x : Rb} {y : Cf}, RbOk x st sg → Rep x y →
    (∀ k, cutR none (rowC t W y) ≤ k → ∃ z d, fastS t k x W = some (z, d, cutR none (rowC t W y)) ∧ d = ((runC t W y).1 : Nat) ∧ Rep z (runC t W y).2) ∧ (∀ k, k < cutR none (rowC t W y) → fastS t k x W = none)
  | N, 0, _, x, y, hx, hr => by
    refine ⟨fun k _ => ⟨x, 0, fast_stop (.inl (by decide)), rfl, hr⟩, fun k h => ?_⟩
    have : cutR none (rowC t 0 y) = 0 := rfl
    omega
  | 0, W + 1, h, x, y, hx, hr => by omega
  | N + 1, W + 1, hW, x, y, hx, hr => by
    cases e : entAt t x.q (nearS x.r) with
    | none =>
      have e1 := rep_none hx hr e
      rw [rowC_n e1, runC_n e1]
      refine ⟨fun k _ => ⟨x, 0, fast_stop (.inr e), rfl, hr⟩, fun k h => ?_⟩
      have : cutR none [y] = 0 := rfl
      omega
    | some en =>
      obtain ⟨a, rr, s⟩ := en
      have hs := stepsS_ok (t := t) hx (w := ((W + 1 : Nat) : Int)) (by omega) rr s
      obtain ⟨n, hn⟩ : ∃ n : Nat, stepsS t x ((W + 1 : Nat) : Int) rr s = ((n + 1 : Nat) : Int) := ⟨(stepsS t x ((W + 1 : Nat) : Int) rr s - 1).toNat, by omega⟩
      have hnW : n + 1 ≤ W + 1 := by omega
      have hmin := steps_min (t := t) hx (c := ((n + 1 : Nat) : Int)) (w := ((W + 1 : Nat) : Int)) (by omega) (by omega) rr s
      rw [hn] at hmin
      have hss : stepsS t x ((n + 1 : Nat) : Int) rr s = ((n + 1 : Nat) : Int) := by rw [hmin]; omega
      obtain ⟨y', k1, k2, k3⟩ := leap_rows ht hx hr e hss
      have g1 := goS_ok ht hx e (n := ((n + 1 : Nat) : Int)) (by omega)
      obtain ⟨M, hM⟩ : ∃ M, W + 1 = n + 1 + M := ⟨W - n, by omega⟩
      obtain ⟨P, p1, p2, p3⟩ := k3 M
      rw [← hM] at p1
      obtain ⟨i1, i2⟩ := fast_cuts ht N M (by omega) g1 k2
      have far := fun hlt => go_far (t := t) hx (w := ((W + 1 : Nat) : Int)) (a := a) (rr := rr) (s := s) (by omega) hlt
      rw [hn] at far
      -- behind the leap the count begins anew
      have anew : cutR (some (rdC y)) (rowC t M y') = cutR none (rowC t M y') := by
        cases M with
        | zero => rfl
        | succ M =>
          cases e2 : stepC t y' with
          | none => rw [rowC_n e2]; rfl
          | some y2 =>
            rw [rowC_s e2]
            obtain ⟨r, hr2⟩ := rowC_ne (t := t) (n := M) (y := y2)
            rw [hr2]
            have ne : rdC y' ≠ rdC y := fun z => by
              have f := far (by omega)
              unfold rdC at z
              rw [k2.rd g1, hr.rd hx, k2.q, hr.q] at z
              have z1 := congrArg Prod.fst z
              have z2 := congrArg Prod.snd z
              exact f ⟨z1, z2⟩
            show (if some (rdC y') = some (rdC y) then 0 else 1) + _ = (if some (rdC y') = none then 0 else 1) + _
            rw [if_neg (fun z => ne (Option.some.inj z)), if_neg (fun z => nomatch z)]
      have hcut : cutR none (rowC t (W + 1) y) = 1 + cutR none (rowC t M y') := by
        obtain ⟨r, hr2⟩ := rowC_ne (t := t) (n := M) (y := y')
        rw [p1, hr2, cutR_app p2 p3, if_neg (fun z => nomatch z), ← hr2, anew]
      have hrun : runC t (W + 1) y = (n + 1 + (runC t M y').1, (runC t M y').2) := by
        rw [hM, runC_two, k1]
      rw [hcut, hrun]
      refine ⟨fun k hk => ?_, fun k hk => ?_⟩
      · obtain ⟨j, rfl⟩ : ∃ j, k = j + 1 := ⟨k - 1, by omega⟩
        obtain ⟨z, d, f1, f2, f3⟩ := i1 j (by omega)
        refine ⟨z, ((n + 1 : Nat) : Int) + d, ?_, by omega, f3⟩
        rw [fast_s, if_neg (by omega), leap_some e, hn]
        dsimp only
        rw [show ((W + 1 : Nat) : Int) - ((n + 1 : Nat) : Int) = (M : Int) by omega, f1]
        simp [Nat.add_comm]
      · cases k with
        | zero =>
          unfold fastS
          rw [if_neg]
          rintro (z | z)
          · omega
          · rw [e] at z; cases z
        | succ j =>
          rw [fast_s, if_neg (by omega), leap_some e, hn]
          dsimp only
          rw [show ((W + 1 : Nat) : Int) - ((n + 1 : Nat) : Int) = (M : Int) by omega, i2 j (by omega)]
          rfl
/-! marks -/
def marksS : Row → Int → Int → Cells
  | [], _, _ => []
  | (s, n) :: r, p, w => (if s = 0 then [] else (List.range n.toNat).map fun k : Nat => (p + w * (k : Int), s)) ++ marksS r (p + w * n) w
theorem marksS_mem {sg : Nat} {w : Int} : ∀ {row : Row} {p : Int}, RowW sg row → ∀ {k v : Int}, (k, v) ∈ marksS row p w ↔ v ≠ 0 ∧ ∃ i : Nat, k = p + w * i ∧ v = nthS row i
  | [], p, _, k, v => by
    simp [marksS]
    intro h i _ e
    exact h e
  | (s, n) :: r, p, h, k, v => by
    have hn := h.1.2
    dsimp only at hn
    have ih := marksS_mem (w := w) (row := r) (p := p + w * n) h.2.2 (k := k) (v := v)
    have e : marksS ((s, n) :: r) p w = (if s = 0 then [] else (List.range n.toNat).map fun k : Nat => (p + w * (k : Int), s)) ++ marksS r (p + w * n) w := rfl
    rw [e, List.mem_append, ih]
    constructor
    · rintro (h1 | ⟨h1, i, h2, h3⟩)
      · by_cases c : s = 0
        · simp [c] at h1
        · rw [if_neg c] at h1
          obtain ⟨i, hi, hk⟩ := List.mem_map.mp h1
          have hi := List.mem_range.mp hi
          cases hk
          refine ⟨c, i, rfl, ?_⟩
          rw [nthS_c, if_pos (by omega)]
      · refine ⟨h1, n.toNat + i, ?_, ?_⟩
        · rw [h2, show ((n.toNat + i : Nat) : Int) = n + i by omega, Int.mul_add]
          omega
        · rw [nthS_c, if_neg (by omega), h3]
          congr 1
          omega
    · rintro ⟨h1, i, h2, h3⟩
      rw [nthS_c] at h3
      by_cases c : (i : Int) < n
      · rw [if_pos c] at h3
        subst h3
        refine .inl ?_
        rw [if_neg h1]
        exact List.mem_map.mpr ⟨i, List.mem_range.mpr (by omega), by rw [h2]⟩
      · rw [if_neg c] at h3
        refine .inr ⟨h1, i - n.toNat, ?_, h3⟩
        rw [h2, show ((i - n.toNat : Nat) : Int) = (i : Int) - n by omega, Int.mul_sub]
        omega
theorem marksS_rise {sg : Nat} : ∀ {row : Row} {p : Int}, RowW sg row → (marksS row p 1).Pairwise (fun a b => a.1 < b.1)
  | [], p, _ => List.Pairwise.nil
  | (s, n) :: r, p, h => by
    have hn := h.1.2
    dsimp only at hn
    have ih := marksS_rise (row := r) (p := p + 1 * n) h.2.2
    show ((if s = 0 then [] else (List.range n.toNat).map fun k : Nat => (p + 1 * (k : Int), s)) ++ marksS r (p + 1 * n) 1).Pairwise _
    rw [List.pairwise_append]
    refine ⟨?_, ih, fun a ha b hb => ?_⟩
    · split
      · exact List.Pairwise.nil
      · rw [List.pairwise_map]
        exact List.pairwise_lt_range.imp fun e => by simp; omega
    · obtain ⟨b1, b2⟩ := b
      obtain ⟨_, i, hb1, _⟩ := (marksS_mem h.2.2).mp hb
      by_cases c : s = 0
      · rw [if_pos c] at ha; exact nomatch ha
      · rw [if_neg c] at ha
        obtain ⟨j, hj, rfl⟩ := List.mem_map.mp ha
        have hj := List.mem_range.mp hj
        show p + 1 * (j : Int) < b1
        rw [hb1]
        omega
theorem marksS_fall {sg : Nat} : ∀ {row : Row} {p : Int}, RowW sg row → (marksS row p (-1)).Pairwise (fun a b => b.1 < a.1)
  | [], p, _ => List.Pairwise.nil
  | (s, n) :: r, p, h => by
    have hn := h.1.2
    dsimp only at hn
    have ih := marksS_fall (row := r) (p := p + -1 * n) h.2.2
    show ((if s = 0 then [] else (List.range n.toNat).map fun k : Nat => (p + -1 * (k : Int), s)) ++ marksS r (p + -1 * n) (-1)).Pairwise _
    rw [List.pairwise_append]
    refine ⟨?_, ih, fun a ha b hb => ?_⟩
    · split
      · exact List.Pairwise.nil
      · rw [List.pairwise_map]
        exact List.pairwise_lt_range.imp fun e => by simp; omega
    · obtain ⟨b1, b2⟩ := b
      obtain ⟨_, i, hb1, _⟩ := (marksS_mem h.2.2).mp hb
      by_cases c : s = 0
      · rw [if_pos c] at ha; exact nomatch ha
      · rw [if_neg c] at ha
        obtain ⟨j, hj, rfl⟩ := List.mem_map.mp ha
        have hj := List.mem_range.mp hj
        show b1 < p + -1 * (j : Int)
        rw [hb1]
        omega
def marksR (x : Rb) : Cells := (marksS x.l (x.m - 1) (-1)).reverse ++ marksS x.r x.m 1
/-- the shot of the stretches is the shot of the cells -/
theorem marks_rep {st sg n : Nat} {x : Rb} {y : Cf} (hx : RbOk x st sg) (h : Rep x y) (hy : Near n y) : marksR x = sortC y.c := by
  refine rise_ext ?_ (sortC_rise hy.n) fun z => ?_
  · unfold marksR
    rw [List.pairwise_append]
    refine ⟨List.pairwise_reverse.mpr (marksS_fall hx.l.1), marksS_rise hx.r.1, fun a ha b hb => ?_⟩
    obtain ⟨a1, a2⟩ := a
    obtain ⟨b1, b2⟩ := b
    obtain ⟨_, i, e1, _⟩ := (marksS_mem hx.l.1).mp (List.mem_reverse.mp ha)
    obtain ⟨_, j, e2, _⟩ := (marksS_mem hx.r.1).mp hb
    show a1 < b1
    omega
  · obtain ⟨k, v⟩ := z
    rw [(sortC_of hy.n).1.mem_iff, mem_cells hy]
    unfold marksR
    rw [List.mem_append, List.mem_reverse, marksS_mem hx.l.1, marksS_mem hx.r.1]
    constructor
    · rintro (⟨h1, i, h2, h3⟩ | ⟨h1, i, h2, h3⟩)
      · refine ⟨h1, ?_⟩
        rw [h3, ← h.l i, h2]
        congr 1
        omega
      · refine ⟨h1, ?_⟩
        rw [h3, ← h.r i, h2]
        congr 1
        omega
    · rintro ⟨h1, h2⟩
      by_cases c : k < x.m
      · refine .inl ⟨h1, (x.m - 1 - k).toNat, by omega, ?_⟩
        rw [← h2, ← h.l]
        congr 1
        omega
      · refine .inr ⟨h1, (k - x.m).toNat, by omega, ?_⟩
        rw [← h2, ← h.r]
        congr 1
        omega
def rb0 : Rb := ⟨0, [], [], 0⟩
theorem rb0_ok {t : Tab} {st sg : Nat} (ht : TabOk t st sg) : RbOk rb0 st sg := ⟨⟨by decide, by have := ht.st0; show (0 : Int) < st; omega⟩, rowOk_nil, rowOk_nil⟩
theorem rep0 : Rep rb0 cf0 := ⟨rfl, rfl, fun i => rfl, fun i => rfl⟩
/-! how many cells -/
def totS : Row → Int
  | [] => 0
  | x :: r => x.2 + totS r
theorem totS_ok {sg : Nat} : ∀ {row : Row}, RowW sg row → 0 ≤ totS row ∧ ∀ x ∈ row, x.2 ≤ totS row
  | [], _ => ⟨by simp [totS], by simp⟩
  | x :: r, h => by
    obtain ⟨h1, h2⟩ := totS_ok h.2.2
    have hx := h.1.2
    refine ⟨by show 0 ≤ x.2 + totS r; omega, fun y hy => ?_⟩
    show y.2 ≤ x.2 + totS r
    rcases List.mem_cons.mp hy with rfl | hy
    · omega
    · have := h2 y hy; omega
theorem totS_put {row : Row} {s n : Int} (hn : 0 ≤ n) : totS (putS row s n) ≤ totS row + n := by
  unfold putS
  split
  · omega
  · cases row with
    | nil => simp [totS]
    | cons x r =>
      obtain ⟨u, m⟩ := x
      dsimp only
      split
      · show m + n + totS r ≤ m + totS r + n; omega
      · show n + (m + totS r) ≤ m + totS r + n; omega
theorem totS_cut {sg : Nat} {row : Row} {n : Int} (h : RowW sg row) (hn : 0 ≤ n) : totS (cutS row n) ≤ totS row := by
  unfold cutS
  split
  · omega
  · cases row with
    | nil => simp
    | cons x r =>
      obtain ⟨u, m⟩ := x
      have := h.1.2
      dsimp only at this ⊢
      split
      · show m - n + totS r ≤ m + totS r; omega
      · show totS r ≤ m + totS r; omega
theorem totS_go {t : Tab} {st sg : Nat} {x : Rb} {a s n : Int} {rr : Bool} (hx : RbOk x st sg) (hn : 1 ≤ n) : totS (goS x (a, rr, s) n).l + totS (goS x (a, rr, s) n).r ≤ totS x.l + totS x.r + 2 * n := by
  cases rr
  · show totS (cutS (cutS x.l (n - 1)) 1) + totS (putS (putS (cutS x.r 1) a n) (nearS (cutS x.l (n - 1))) 1) ≤ _
    have h1 := totS_cut (n := n - 1) hx.l.1 (by omega)
    have h2 := totS_cut (n := 1) (cutS_ok (n := n - 1) hx.l (by omega)).1 (by decide)
    have h3 := totS_cut (n := 1) hx.r.1 (by decide)
    have h4 := totS_put (row := cutS x.r 1) (s := a) (n := n) (by omega)
    have h5 := totS_put (row := putS (cutS x.r 1) a n) (s := nearS (cutS x.l (n - 1))) (n := 1) (by decide)
    omega
  · show totS (putS x.l a n) + totS (cutS x.r n) ≤ _
    have h1 := totS_put (row := x.l) (s := a) (n := n) (by omega)
    have h2 := totS_cut (n := n) hx.r.1 (by omega)
    omega
theorem totS_fast {t : Tab} {st sg : Nat} (ht : TabOk t st sg) : ∀ {k : Nat} {x : Rb} {w : Int} {z : Rb × Int × Nat}, RbOk x st sg → fastS t k x w = some z → totS z.1.l + totS z.1.r ≤ totS x.l + totS x.r + 2 * z.2.1
  | 0, x, w, z, hx, h => by
    unfold fastS at h
    split at h
    · cases h; simp
    · cases h
  | k + 1, x, w, z, hx, h => by
    rw [fast_s] at h
    by_cases c1 : w ≤ 0
    · rw [if_pos c1] at h; cases h; simp
    · rw [if_neg c1] at h
      cases e : entAt t x.q (nearS x.r) with
      | none => rw [leap_none.mpr e] at h; cases h; simp
      | some en =>
        obtain ⟨a, r, s⟩ := en
        rw [leap_some e] at h
        dsimp only at h
        have hs := stepsS_ok (t := t) hx (w := w) (by omega) r s
        generalize stepsS t x w r s = n at *
        have hg := goS_ok ht hx e hs.1
        have ht2 := totS_go (t := t) (a := a) (s := s) (rr := r) hx hs.1
        cases e2 : fastS t k (goS x (a, r, s) n) (w - n) with
        | none => rw [e2] at h; cases h
        | some z' =>
          rw [e2] at h
          cases h
          have := totS_fast ht hg e2
          show totS z'.1.l + totS z'.1.r ≤ _ + 2 * (n + z'.2.1)
          omega
theorem marksS_len {sg : Nat} {w : Int} : ∀ {row : Row} {p : Int}, RowW sg row → ((marksS row p w).length : Int) ≤ totS row
  | [], _, _ => by simp [marksS, totS]
  | (s, n) :: r, p, h => by
    have hn := h.1.2
    dsimp only at hn
    have ih := marksS_len (w := w) (row := r) (p := p + w * n) h.2.2
    show (((if s = 0 then [] else (List.range n.toNat).map fun k : Nat => (p + w * (k : Int), s)) ++ marksS r (p + w * n) w).length : Int) ≤ n + totS r
    rw [List.length_append]
    split
    · simp; omega
    · simp; omega
end My

namespace My
open PySem PySem.Spec PyProof.Rows L2 VL
def W_ask_row (A : Cs) : DF := fun ds P => ∃ (row : Row) (sg : Nat), ds = [rowSD row] ∧ RowOk sg row ∧ row.length ≤ 50000 ∧ P.ok (.fz, .non) ds
def W_ask_stretches (A : Cs) : DF := fun ds P => ∃ (q : Int) (l r : Row) (sg : Nat), ds = [stD q l r] ∧ (0 ≤ q ∧ RowOk sg l ∧ RowOk sg r ∧ LenOk l r) ∧ P.ok (.fz, .non) ds
def W_put (A : Cs) : DF := fun ds P => ∃ (row : Row) (s n : Int), ds = [rowSD row.reverse, .int s, .int n] ∧ row.length ≤ 50000 ∧ P.ok (.fz, .non) [rowSD (putS row s n).reverse, .int s, .int n]
def W_drop (A : Cs) : DF := fun ds P => ∃ (row : Row) (n : Int), ds = [rowSD row.reverse, .int n] ∧ row.length ≤ 50000 ∧ P.ok (.fz, .non) [rowSD (cutS row n).reverse, .int n]
def W_near_sign (A : Cs) : DF := fun ds P => ∃ row : Row, ds = [rowSD row.reverse] ∧ row.length ≤ 50000 ∧ P.ok (.fz, .int (nearS row)) ds
def W_near_count (A : Cs) : DF := fun ds P => ∃ (row : Row) (s w : Int), ds = [rowSD row.reverse, .int s, .int w] ∧ row.length ≤ 50000 ∧ P.ok (.fz, .int (runS row s w)) ds
def W_Ribbon_init (A : Cs) : DF := fun ds P => ∃ (t : Tab) (q : Int) (l r : Row), ds = [.obj A.C_Ribbon [], machD A t, stD q l r] ∧ LenOk l r ∧ P.ok (.fz, .non) [rbD A t ⟨q, l, r, 0⟩, machD A t, stD q l r]
def W_Ribbon_entry (A : Cs) : DF := fun ds P => ∃ (t : Tab) (st sg : Nat) (x : Rb), ds = [rbD A t x] ∧ TabOk t st sg ∧ RbOk x st sg ∧ (x.l.length ≤ 40000 ∧ x.r.length ≤ 40000) ∧ P.ok (.fz, entD (entAt t x.q (nearS x.r))) ds
def W_Ribbon_leap (A : Cs) : DF := fun ds P => ∃ (t : Tab) (st sg : Nat) (x : Rb) (w a s : Int) (r : Bool), ds = [rbD A t x, .int w] ∧ TabOk t st sg ∧ RbOk x st sg ∧ (x.l.length ≤ 40000 ∧ x.r.length ≤ 40000) ∧ 1 ≤ w ∧ entAt t x.q (nearS x.r) = some (a, r, s) ∧
  P.ok (.fz, .int (stepsS t x w r s)) [rbD A t (goS x (a, r, s) (stepsS t x w r s)), .int w]
def W_Ribbon_told (A : Cs) : DF := fun ds P => ∃ (t : Tab) (x : Rb), ds = [rbD A t x] ∧ (x.l.length ≤ 40000 ∧ x.r.length ≤ 40000) ∧ P.ok (.fz, stD x.q x.l x.r) ds
def W_ask_for (A : Cs) : DF := fun ds P => ∃ (t : Tab) (st sg : Nat) (q : Int) (l r : Row), ds = [machD A t, stD q l r] ∧ TabOk t st sg ∧ RbOk ⟨q, l, r, 0⟩ st sg ∧ LenOk l r ∧ P.ok (.fz, .non) ds
def W_fast_from (A : Cs) : DF := fun ds P => ∃ (t : Tab) (st sg : Nat) (q : Int) (l r : Row) (w : Int) (k : Nat), ds = [machD A t, stD q l r, .int w, .int k] ∧ TabOk t st sg ∧ RbOk ⟨q, l, r, 0⟩ st sg ∧ LenOk l r ∧ k ≤ 10000 ∧
  match fastS t k ⟨q, l, r, 0⟩ w with
  | none => P.ex A.C_TooLong [] ds
  | some z => P.ok (.fz, resD z) ds
def W__law_put (A : Cs) : DF := fun ds P => ∃ (row : Row) (s n : Int), ds = [rowSD row, .int s, .int n] ∧ row.length ≤ 50000 ∧ P.ok (.fz, rowSD (putS row s n)) ds
def W__law_cut (A : Cs) : DF := fun ds P => ∃ (row : Row) (n : Int), ds = [rowSD row, .int n] ∧ row.length ≤ 50000 ∧ P.ok (.fz, rowSD (cutS row n)) ds
def W__law_run_of (A : Cs) : DF := fun ds P => ∃ (row : Row) (s w : Int), ds = [rowSD row, .int s, .int w] ∧ row.length ≤ 50000 ∧ P.ok (.fz, .int (runS row s w)) ds
def W__law_leap (A : Cs) : DF := fun ds P => ∃ (t : Tab) (st sg : Nat) (q : Int) (l r : Row) (w : Int), ds = [tabL t, stD q l r, .int w] ∧ TabOk t st sg ∧ RbOk ⟨q, l, r, 0⟩ st sg ∧ (l.length ≤ 40000 ∧ r.length ≤ 40000) ∧ 1 ≤ w ∧
  match leapS t ⟨q, l, r, 0⟩ w with
  | none => P.ok (.fz, .non) ds
  | some (y, n) => P.ok (.fz, .tup [stD y.q y.l y.r, .int n, .int y.m]) ds
def W__law_leaps (A : Cs) : DF := fun ds P => ∃ (t : Tab) (st sg : Nat) (q : Int) (l r : Row) (w : Int) (k : Nat), ds = [tabL t, stD q l r, .int w, .int k] ∧ TabOk t st sg ∧ RbOk ⟨q, l, r, 0⟩ st sg ∧ LenOk l r ∧ k ≤ 10000 ∧
  match fastS t k ⟨q, l, r, 0⟩ w with
  | none => P.ok (.fz, .non) ds
  | some z => P.ok (.fz, resD z) ds
def W__law_fast (A : Cs) : DF := fun ds P => ∃ (t : Tab) (st sg : Nat) (q : Int) (l r : Row) (w : Int) (k : Nat), ds = [machD A t, stD q l r, .int w, .int k] ∧ TabOk t st sg ∧ RbOk ⟨q, l, r, 0⟩ st sg ∧ LenOk l r ∧ k ≤ 10000 ∧
  match fastS t k ⟨q, l, r, 0⟩ w with
  | none => P.ok (.fz, .str "too long") ds
  | some z => P.ok (.fz, resD z) ds
def W__law_far (A : Cs) : DF := fun ds P => ∃ (ns : List Int) (a : Int), ds = [.scr ns, .lst [.int a]] ∧ (0 ≤ a ∧ a ≤ 900000000) ∧ ∀ n : Int, 1 ≤ n → P.ok (.fz, .int n) [.scr ns, .lst [.int (a + 1)]]
def W__law_great_row (A : Cs) : DF := fun ds P => ∃ (ns : List Int) (a : Int) (sg : Nat), ds = [.scr ns, .lst [.int a], .int sg] ∧ (0 ≤ a ∧ a ≤ 800000000) ∧ (0 < sg ∧ sg ≤ 1000) ∧ ∀ (row : Row) (a' : Int), RowOk sg row → row.length ≤ 5 → a ≤ a' → a' ≤ a + 100 → P.ok (.new (.L .F), rowSD row) [.scr ns, .lst [.int a'], .int sg]
def W__law_split (A : Cs) : DF := fun ds P => ∃ (t : Tab) (st sg : Nat) (q : Int) (l r : Row) (w c : Int) (k : Nat) (z : Rb × Int × Nat), ds = [machD A t, stD q l r, .int w, .int c, resD z] ∧ TabOk t st sg ∧ RbOk ⟨q, l, r, 0⟩ st sg ∧ (l.length ≤ 5 ∧ r.length ≤ 5) ∧ k ≤ 40 ∧ (0 ≤ c ∧ c ≤ w) ∧ fastS t k ⟨q, l, r, 0⟩ w = some z ∧ P.ok (.fz, .bl true) ds
def W__law_round (A : Cs) : DF := fun ds P => ∃ (ns : List Int) (a : Int), ds = [.scr ns, .lst [.int a]] ∧ (0 ≤ a ∧ a ≤ 700000000) ∧ ∀ a' : Int, a ≤ a' → a' ≤ a + 30000 → P.ok (.fz, .bl true) [.scr ns, .lst [.int a']]
end My

/-! a thing of one's own lent as frozen while an expression runs whose answer holds no list -/
namespace VL
open PySem PySem.Spec PyProof.Rows L2 RT RZ
section
variable {K : PySem.W.Frag} {W : WX} {G G' H H' : Hp} {σ : L2.St} {X : Cx} {ρ : Rho} {S T : Sta}
def isLst : HO → Bool
  | .lst _ => true
  | _ => false
/-- no list within -/
def noL : Nat → D → Bool
  | _, .non => true
  | _, .bl _ => true
  | _, .int _ => true
  | _, .str _ => true
  | n + 1, .tup xs => xs.all (noL n)
  | n + 1, .dct kvs => kvs.all fun x => noL n x.2
  | n + 1, .obj _ fs => fs.all fun x => noL n x.2
  | _, _ => false
/-- .. within what is frozen of a thing held so -/
def noLM : Nat → Md → D → Bool
  | n, .F, d => noL n d
  | n + 1, .L m, .lst ds => ds.all (noLM n m)
  | n + 1, .O ms, .obj _ fs => decide (ms.length = fs.length) && (ms.zip fs).all fun x => noLM n x.1 x.2.2
  | n + 1, .K, .dct kvs => kvs.all fun x => noL n x.2
  | n + 1, .T ms, .tup ds => decide (ms.length = ds.length) && (ms.zip ds).all fun x => noLM n x.1 x.2
  | _, _, _ => false
abbrev KeepL (G G' : Hp) : Prop := ∀ a o, G a = some o → isLst o = false → G' a = some o
theorem KeepL.t (k : KeepL G G') {a : Addr} {xs : List V} (h : SqT K G a xs) : SqT K G' a xs := by
  rcases h with (h | ⟨o, h⟩) | h
  · exact .inl (.inl (k a _ h rfl))
  · exact .inl (.inr ⟨o, k a _ h rfl⟩)
  · exact .inr h
theorem Dt.noL (k : KeepL G G') : ∀ {n : Nat} {v : V} {d : D}, noL n d = true → Dt K G v d → Dt K G' v d
  | 0, v, d, h, x => by
    cases x with
    | non => exact .non
    | bl b => exact .bl b
    | int i => exact .int i
    | str i => exact .str i
    | lst _ _ => simp [VL.noL] at h
    | scr _ => simp [VL.noL] at h
    | tup _ _ => simp [VL.noL] at h
    | dct _ _ => simp [VL.noL] at h
    | exc _ => simp [VL.noL] at h
    | ndc _ _ => simp [VL.noL] at h
    | obj _ _ _ => simp [VL.noL] at h
  | n + 1, v, d, h, x => by
    cases x with
    | non => exact .non
    | bl b => exact .bl b
    | int i => exact .int i
    | str i => exact .str i
    | lst _ _ => simp [VL.noL] at h
    | scr _ => simp [VL.noL] at h
    | exc _ => simp [VL.noL] at h
    | ndc _ _ => simp [VL.noL] at h
    | tup h1 h2 =>
      rename_i a xs ds
      refine .tup (k.t h1) ?_
      have h' : ds.all (VL.noL n) = true := by simpa only [VL.noL] using h
      clear h1 h
      have h := h'
      clear h'
      induction ds generalizing xs with
      | nil => cases h2; exact .nil
      | cons d ds ih =>
        cases h2 with
        | cons q t =>
          simp only [List.all_cons, Bool.and_eq_true] at h
          exact .cons (Dt.noL k h.1 q) (ih t h.2)
    | dct h1 h2 =>
      rename_i a kvs ds
      refine .dct (h1.imp (fun z => k a _ z rfl) fun ⟨o, z⟩ => ⟨o, k a _ z rfl⟩) ?_
      have h' : (ds.all fun x => VL.noL n x.2) = true := by simpa only [VL.noL] using h
      clear h1 h
      have h := h'
      clear h'
      induction ds generalizing kvs with
      | nil => cases h2; exact .nil
      | cons d ds ih =>
        cases h2 with
        | cons q t =>
          simp only [List.all_cons, Bool.and_eq_true] at h
          exact .cons (Dt.noL k h.1 q) (ih t h.2)
    | obj h1 hn h2 =>
      rename_i a C dx fs ds
      refine .obj (k a _ h1 rfl) hn ?_
      have h' : (ds.all fun x => VL.noL n x.2) = true := by simpa only [VL.noL] using h
      clear h1 hn h
      have h := h'
      clear h'
      induction ds generalizing fs with
      | nil => cases h2; exact .nil
      | cons d ds ih =>
        cases h2 with
        | cons q t =>
          simp only [List.all_cons, Bool.and_eq_true] at h
          exact .cons (Dt.noL k h.1 q) (ih t h.2)
theorem DtK.noL (k : KeepL G G') {n : Nat} : ∀ {vs : List (Key × V)} {ds : List (Key × D)}, (ds.all fun x => VL.noL n x.2) = true → DtK K G vs ds → DtK K G' vs ds
  | _, _, _, .nil => .nil
  | _, _, h, .cons q t => by
    simp only [List.all_cons, Bool.and_eq_true] at h
    exact .cons (Dt.noL k h.1 q) (DtK.noL k h.2 t)
theorem R.noL (k : KeepL G G') : ∀ {n : Nat} {m : Md} {v : V} {d : D} {fp : List Addr}, noLM n m d = true → R K G H m v d fp → R K G' H m v d fp
  | 0, m, v, d, fp, h, x => by
    cases x with
    | F q => exact .F (q.noL k (n := 0) (by simpa only [noLM] using h))
    | L _ _ => simp [noLM] at h
    | K _ _ => simp [noLM] at h
    | N _ _ => simp [noLM] at h
    | M _ _ => simp [noLM] at h
    | O _ _ _ => simp [noLM] at h
    | P _ => simp [noLM] at h
    | T _ _ => simp [noLM] at h
    | A _ _ => simp [noLM] at h
  | n + 1, m, v, d, fp, h, x => by
    cases x with
    | F q => exact .F (q.noL k (n := n + 1) (by simpa only [noLM] using h))
    | L h1 h2 =>
      rename_i m a xs ds fp
      refine .L h1 ?_
      have h' : ds.all (noLM n m) = true := by simpa only [noLM] using h
      clear h1 h
      have h := h'
      clear h'
      induction ds generalizing xs fp with
      | nil => cases h2; exact .nil
      | cons d ds ih =>
        cases h2 with
        | cons q t =>
          simp only [List.all_cons, Bool.and_eq_true] at h
          exact .cons (R.noL k h.1 q) (ih t h.2)
    | N _ _ => simp [noLM] at h
    | M _ _ => simp [noLM] at h
    | K h1 h2 => exact .K h1 (h2.noL k (n := n) (by simpa only [noLM] using h))
    | O h1 hn h2 =>
      rename_i ms a C dx fs ds fp
      refine .O h1 hn ?_
      have h' : ((ms.zip ds).all fun x => noLM n x.1 x.2.2) = true := by
        simp only [noLM, Bool.and_eq_true] at h
        exact h.2
      clear h1 hn h
      have h := h'
      clear h'
      induction ds generalizing fs fp ms with
      | nil => cases h2; exact .nil
      | cons d ds ih =>
        cases h2 with
        | cons q t =>
          simp only [List.zip_cons_cons, List.all_cons, Bool.and_eq_true] at h
          exact .cons (R.noL k h.1 q) (ih t h.2)
    | P _ => simp [noLM] at h
    | A _ _ => simp [noLM] at h
    | T h1 h2 =>
      rename_i ms a xs ds
      refine .T (k _ _ h1 rfl) ?_
      have h' : ((ms.zip ds).all fun x => noLM n x.1 x.2) = true := by
        simp only [noLM, Bool.and_eq_true] at h
        exact h.2
      clear h1 h
      have h := h'
      clear h'
      induction ds generalizing xs fp ms with
      | nil => cases h2; exact .nil
      | cons d ds ih =>
        cases h2 with
        | cons q t =>
          simp only [List.zip_cons_cons, List.all_cons, Bool.and_eq_true] at h
          exact .cons (R.noL k h.1 q) (ih _ t h.2)
mutual
def isLm : Md → Bool
  | .F => true
  | .L m => isLm m
  | .T ms => isLms ms
  | _ => false
def isLms : List Md → Bool
  | [] => true
  | m :: ms => isLm m && isLms ms
end
mutual
theorem R.lists : ∀ {m : Md} {v : V} {d : D} {fp : List Addr}, isLm m = true → R K G H m v d fp → ∀ a ∈ fp, ∃ xs, H a = some (.lst xs)
  | _, _, _, _, _, .F _, _, h => nomatch h
  | _, _, _, _, e, .L h t, a, ha => by
    rcases List.mem_cons.mp ha with rfl | ha
    · exact ⟨_, h⟩
    · exact RA.lists (by simpa only [isLm] using e) t a ha
  | _, _, _, _, e, .T h t, a, ha => RS.lists (by simpa only [isLm] using e) t a ha
  | _, _, _, _, e, .K _ _, a, ha => by simp [isLm] at e
  | _, _, _, _, e, .A _ _, a, ha => by simp [isLm] at e
  | _, _, _, _, e, .N _ _, a, ha => by simp [isLm] at e
  | _, _, _, _, e, .M _ _, a, ha => by simp [isLm] at e
  | _, _, _, _, e, .O _ _ _, a, ha => by simp [isLm] at e
  | _, _, _, _, e, .P _, a, ha => by simp [isLm] at e
theorem RA.lists : ∀ {m : Md} {v : List V} {d : List D} {fp : List Addr}, isLm m = true → RA K G H m v d fp → ∀ a ∈ fp, ∃ xs, H a = some (.lst xs)
  | _, _, _, _, _, .nil, _, h => nomatch h
  | _, _, _, _, e, .cons h t, a, ha => (List.mem_append.mp ha).elim (R.lists e h a) (RA.lists e t a)
theorem RS.lists : ∀ {m : List Md} {v : List V} {d : List D} {fp : List Addr}, isLms m = true → RS K G H m v d fp → ∀ a ∈ fp, ∃ xs, H a = some (.lst xs)
  | _, _, _, _, _, .nil, _, h => nomatch h
  | _, _, _, _, e, .cons h t, a, ha => by
    simp only [isLms, Bool.and_eq_true] at e
    exact (List.mem_append.mp ha).elim (R.lists e.1 h a) (RS.lists e.2 t a)
end
def noLK (x : Kd × D) : Bool := match x.1 with
  | .fz => noL 40 x.2
  | .new m => noLM 40 m x.2
  | .bor _ _ _ => false
def lendK (ρ : Rho) (i : Nat) (q : Md → D → Prop) : Prop := match ρ[i]? with
  | some (some (m, d)) => isLm m = true ∧ q m d
  | _ => False
def wLend (i : Nat) (we : DE (Kd × D)) : DE (Kd × D) := fun ρ P => lendK ρ i fun _ d => we (ρ.set i (some (.F, d))) ⟨fun p x ρ' => (p = [] ∧ noLK x = true ∧ ρ' = ρ.set i (some (.F, d))) ∧ P.ok [] x ρ, fun _ _ _ => False⟩
@[simp ↓] theorem wLend_eq {i : Nat} {we : DE (Kd × D)} {P : Po (Kd × D)} : wLend i we ρ P = lendK ρ i fun _ d => we (ρ.set i (some (.F, d))) ⟨fun p x ρ' => (p = [] ∧ noLK x = true ∧ ρ' = ρ.set i (some (.F, d))) ∧ P.ok [] x ρ, fun _ _ _ => False⟩ := rfl
@[simp ↓] theorem lendK_0 {m : Md} {d : D} {q : Md → D → Prop} : lendK (some (m, d) :: ρ) 0 q = (isLm m = true ∧ q m d) := rfl
@[simp ↓] theorem lendK_s {x : Option (Md × D)} {i : Nat} {q : Md → D → Prop} : lendK (x :: ρ) (i + 1) q = lendK ρ i q := by simp [lendK]
@[simp ↓] theorem noLK_f {d : D} : noLK (.fz, d) = noL 40 d := rfl
@[simp ↓] theorem noLK_n {m : Md} {d : D} : noLK (.new m, d) = noLM 40 m d := rfl
end
end VL

/-! functions with defaults -/
namespace VL
open PySem PySem.Spec PyProof.Rows L2
section
variable {K : PySem.W.Frag} {S : Sta} {P : Program} {w : World} {mg : Str → Option Value} {base : Heap}
theorem fn_okD {dvs : List L2.V} {x qual : Str} {st : Stmt} {fa : Addr} {fd : FuncData} {N ps : List Str} {k : Nat} {ms ms' : List Md} {Wf : DF} {w' : DS} (F : FunD K x qual (defArgs st) (defBody st) (defScope st) dvs [] fa fd) (sc : FnScope N ps (defScope st)) (hm : ms.length = ps.length) (ho : mOk ms ms' = true) (hN : ms.length ≤ N.length)
    (body : ∀ (cdv : Value) (A : Around) (outer : List Env) (s : Shared) (H : Hp) (E : XK), Room k (A.deeper (envOfC qual (defScope st) s.heap.objs.size fa cdv)) →
      PSs (cxOf (L2.CX P w) P w K mg base N qual (defScope st) fa cdv A outer s H E) (defBody st) (ts K (fun cls d _ H => E cls d H) w'))
    (hw : ∀ ds P, ds.length = ms.length → Wf ds P → w' (endsOf ms' ds P) (zr ms ds ++ List.replicate (N.length - ms.length) none)) :
    FnOk P w K mg base (L2.CX P w) (k + 1) fa fd ps (spV K ms ms' Wf) := by
  refine F.ok sc (fun vs H Q E h => ?_) (fun cdv A outer s H vs Q E hr h => ⟨ts K (fun cls d _ H => E cls d H) w', body cdv A outer s H E hr, ?_⟩)
  · obtain ⟨S, ds, Pf, _, _, _, h, _⟩ := h
    rw [h, hm]
  · obtain ⟨S, ds, Pf, rfl, hσ, hp, hl, hd, hρ, ok, wf, k1, k2⟩ := h
    have sok := start_ok (N := N) hl hd hN ok hσ hρ
    have hσ' : ∀ (k : Nat) (v : V), vs[k]? = some v → (L2.start N vs)[k]? = some (some v) := fun k v e => by
      have e' : (vs.map some)[k]? = some (some v) := by rw [List.getElem?_map, e]; rfl
      unfold L2.start
      rw [List.getElem?_append_left (List.getElem?_eq_some_iff.mp e').1]; exact e'
    have hρ' : ∀ (k : Nat) (m : Md) (d : D), ms[k]? = some m → ds[k]? = some d → (zr ms ds ++ List.replicate (N.length - ms.length) none)[k]? = some (some (m, d)) := fun k m d e1 e2 => by
      have e := zr_get.mpr ⟨e1, e2⟩
      rw [List.getElem?_append_left (List.getElem?_eq_some_iff.mp e).1]; exact e
    have fin : ∀ {q : List D → Prop} (T : Sta), finK ms' ds T.ρ q → T.ok K → (Sta.to { S with σ := L2.start N vs, ρ := zr ms ds ++ List.replicate (N.length - ms.length) none } T) → ∃ ds', q ds' ∧ ds'.length = ms'.length ∧ Sta.ok K { T with σ := vs.map some, ρ := zr ms' ds', f := parF ms' T.f } := fun {q} T hq okT t => by
      obtain ⟨ds', h1, h2, h3⟩ := finK_of ho hq
      exact ⟨ds', h1, h2, par_ok (S := { S with σ := L2.start N vs, ρ := zr ms ds ++ List.replicate (N.length - ms.length) none }) ho hl sok hσ' hρ' hp okT t h2 h3⟩
    refine ⟨{ S with σ := L2.start N vs, ρ := zr ms ds ++ List.replicate (N.length - ms.length) none }, endsOf ms' ds Pf, rfl, rfl, sok, hw ds Pf hd wf, ?_⟩
    refine ⟨fun T e okT t => ?_, fun T e _ _ => e.elim, fun T e _ _ => e.elim, fun x T e okT t v hv => ?_, fun C fl T e okT t dd hd' => ?_⟩
    · obtain ⟨ds', h1, h2, h3⟩ := fin T e okT t
      exact k1 _ ds' _ h1 h2 rfl rfl h3 (Sta.to.par (S := S) ⟨t.stp, t.pin⟩) rfl _ (Has.par (S := S) (T := T) (kd := .fz) rfl .non)
    · obtain ⟨ds', h1, h2, h3⟩ := fin T e.2 okT t
      exact k1 _ ds' _ h1 h2 rfl rfl h3 (Sta.to.par (S := S) ⟨t.stp, t.pin⟩) e.1 _ (Has.par (S := S) e.1 (by
        obtain ⟨kd, d⟩ := x
        cases kd with
        | fz => exact hv
        | bor i p m => cases e.1
        | new m => exact hv))
    · obtain ⟨ds', h1, h2, h3⟩ := fin T e okT t
      exact k2 C fl ds' _ h1 h2 rfl rfl h3 (Sta.to.par (S := S) ⟨t.stp, t.pin⟩) dd hd'
end
end VL

namespace My
open PySem PySem.Spec PyProof.Rows L2 VL
def markD (x : Int × Int) : D := .tup [.int x.1, .int x.2]
theorem marksD_def (m : Cells) : marksD m = .tup (m.map markD) := rfl
def W_marks_along (A : Cs) : DF := fun ds P => ∃ (row : Row) (sg : Nat) (p w : Int), ds = [rowSD row, .int p, .int w] ∧ RowW sg row ∧ (w = 1 ∨ w = -1) ∧ totS row ≤ 20000 ∧ P.ok (.new (.L .F), .lst ((marksS row p w).map markD)) ds
def W_shot_of (A : Cs) : DF := fun ds P => ∃ (q : Int) (l r : Row) (p : Int) (sg : Nat), ds = [stD q l r, .int p] ∧ (0 ≤ q ∧ RowOk sg l ∧ RowOk sg r ∧ LenOk l r) ∧ totS l + totS r ≤ 20000 ∧ P.ok (.fz, shotD q p ((marksS l (p - 1) (-1)).reverse ++ marksS r p 1)) ds
def W_fast_after (A : Cs) : DF := fun ds P => ∃ (t : Tab) (st sg : Nat) (w : Int) (k : Nat), ds = [machD A t, .int w, .int k] ∧ TabOk t st sg ∧ k ≤ 5000 ∧
  match fastS t k rb0 w with
  | none => P.ex A.C_TooLong [] ds
  | some z => totS z.1.l + totS z.1.r ≤ 20000 ∧ P.ok (.fz, .tup [shotD z.1.q z.1.m (marksR z.1), .int z.2.1]) ds
def W__law_after (A : Cs) : DF := fun ds P => ∃ (t : Tab) (st sg : Nat) (w : Int) (k : Nat), ds = [machD A t, .int w, .int k] ∧ TabOk t st sg ∧ k ≤ 5000 ∧
  match fastS t k rb0 w with
  | none => P.ok (.fz, .str "too long") ds
  | some z => totS z.1.l + totS z.1.r ≤ 20000 ∧ P.ok (.fz, .tup [shotD z.1.q z.1.m (marksR z.1), .int z.2.1]) ds
def W__law_read (A : Cs) : DF := fun ds P => ∃ x : Cf, ds = [cfD x] ∧ P.ok (.fz, .tup [.int (rdC x).1, .int (rdC x).2]) ds
def W__law_cut_leaps (A : Cs) : DF := fun ds P => ∃ xs : List Cf, ds = [.lst (xs.map cfD)] ∧ xs.length ≤ 90000 ∧ P.ok (.fz, .int (cutR none xs)) ds
end My

namespace My
open PySem PySem.Spec PyProof.Rows L2 VL
/-- one more cell at the far end of a row -/
def bumpR (row : Row) (s : Int) : Row := match row.getLast? with
  | some (u, n) => if u = s then row.dropLast ++ [(s, n + 1)] else row ++ [(s, 1)]
  | none => row ++ [(s, 1)]
def stepR (x : Row × Int) (y : Int × Int) : Row × Int := (if x.2 < y.1 then x.1 ++ [(0, y.1 - x.2), (y.2, 1)] else bumpR x.1 y.2, y.1 + 1)
def foldR (ps : Cells) : Row × Int := ps.foldl stepR ([], 0)
def rowOf (ps : Cells) : Row := (foldR ps).1
theorem foldR_snoc {ps : Cells} {y : Int × Int} : foldR (ps ++ [y]) = stepR (foldR ps) y := by unfold foldR; rw [List.foldl_append]; rfl
theorem bumpR_snoc {row : Row} {u n s : Int} : bumpR (row ++ [(u, n)]) s = if u = s then row ++ [(s, n + 1)] else row ++ [(u, n)] ++ [(s, 1)] := by
  unfold bumpR
  simp
theorem totS_app' : ∀ {a b : Row}, totS (a ++ b) = totS a + totS b
  | [], b => by simp [totS]
  | x :: a, b => by
    show x.2 + totS (a ++ b) = x.2 + totS a + totS b
    rw [totS_app']
    omega
theorem nthS_far {sg : Nat} : ∀ {row : Row} {i : Nat}, RowW sg row → totS row ≤ i → nthS row i = 0
  | [], _, _, _ => rfl
  | (s, n) :: r, i, h, hi => by
    have hn := h.1.2
    dsimp only at hn
    have ht := (totS_ok h.2.2).1
    have hi : n + totS r ≤ i := hi
    rw [nthS_c, if_neg (by omega)]
    exact nthS_far h.2.2 (by omega)
theorem nthS_app {sg : Nat} : ∀ {a b : Row} {i : Nat}, RowW sg a → nthS (a ++ b) i = if (i : Int) < totS a then nthS a i else nthS b (i - (totS a).toNat)
  | [], b, i, h => by
    rw [if_neg (by simp [totS]), show (totS []).toNat = 0 from rfl]
    rfl
  | (s, n) :: a, b, i, h => by
    have hn := h.1.2
    dsimp only at hn
    have ht := (totS_ok h.2.2).1
    have e : totS ((s, n) :: a) = n + totS a := rfl
    show nthS ((s, n) :: (a ++ b)) i = _
    rw [nthS_c, nthS_c, e, nthS_app h.2.2]
    by_cases c : (i : Int) < n
    · rw [if_pos c, if_pos (by omega), if_pos c]
    · rw [if_neg c]
      by_cases d : (i : Int) < n + totS a
      · rw [if_pos d, if_neg c, if_pos (by omega)]
      · rw [if_neg d, if_neg (by omega)]
        congr 1
        omega
structure PsA (sg : Nat) (ps : Cells) : Prop where
  d : ∀ x ∈ ps, 0 ≤ x.1 ∧ 0 < x.2 ∧ x.2 < sg
  a : ps.Pairwise fun a b => a.1 < b.1
theorem cAt_app {ps : Cells} {d s k : Int} (h : ∀ x ∈ ps, x.1 < d) : cAt (ps ++ [(d, s)]) k = if k = d then s else cAt ps k := by
  unfold cAt cGet
  rw [List.find?_append]
  by_cases c : k = d
  · subst c
    have : ps.find? (fun x => decide (x.1 = k)) = none := by
      rw [List.find?_eq_none]
      intro x hx
      have := h x hx
      simp
      omega
    rw [this]
    simp
  · rw [if_neg c]
    have : List.find? (fun x : Int × Int => decide (x.1 = k)) [(d, s)] = none := by simp; omega
    rw [this]
    simp
/-- what stands in such a row -/
structure RowI (sg : Nat) (x : Row × Int) (ps : Cells) : Prop where
  w : RowW sg x.1
  l : ∀ y, x.1.getLast? = some y → y.1 ≠ 0
  t : totS x.1 = x.2
  n : ∀ i : Nat, nthS x.1 i = cAt ps i
  k : ∀ y ∈ ps, y.1 < x.2
  len : x.1.length ≤ 2 * ps.length
theorem RowI.step {sg : Nat} {x : Row × Int} {ps : Cells} (I : RowI sg x ps) {d s : Int} (hd : x.2 ≤ d) (hs : 0 < s ∧ s < sg) : RowI sg (stepR x (d, s)) (ps ++ [(d, s)]) := by
  obtain ⟨row, reached⟩ := x
  obtain ⟨w, l, t, n, k, len⟩ := I
  dsimp only at w l t n k len hd
  have t0 := (totS_ok w).1
  have kd : ∀ y ∈ ps, y.1 < d := fun y hy => by have := k y hy; omega
  have ks : ∀ y ∈ ps ++ [(d, s)], y.1 < d + 1 := fun y hy => by
    rcases List.mem_append.mp hy with q | q
    · have := kd y q; omega
    · simp at q; subst q; show d < d + 1; omega
  unfold stepR
  dsimp only
  by_cases c : reached < d
  · rw [if_pos c]
    have e : row ++ [(0, d - reached), (s, 1)] = row ++ [(0, d - reached)] ++ [(s, 1)] := by simp
    have w1 : RowW sg (row ++ [(0, d - reached)]) := RowW.snoc.mpr ⟨w, ⟨⟨by omega, by show (0 : Int) < sg; omega⟩, by show 1 ≤ d - reached; omega⟩, fun y hy => by have := l y hy; exact fun z => this z.symm⟩
    have tt : totS (row ++ [(0, d - reached)]) = d := by rw [totS_app', t]; simp [totS]; omega
    refine ⟨?_, fun y hy => ?_, ?_, fun i => ?_, ks, ?_⟩
    · rw [e]
      exact RowW.snoc.mpr ⟨w1, ⟨⟨by show 0 ≤ s; omega, hs.2⟩, by show (1 : Int) ≤ 1; decide⟩, fun y hy => by
        rw [List.getLast?_append] at hy
        simp at hy
        subst hy
        show s ≠ 0
        omega⟩
    · rw [e, List.getLast?_append] at hy
      simp at hy
      subst hy
      show s ≠ 0
      omega
    · rw [e, totS_app', tt]
      simp [totS]
    · rw [e, nthS_app w1, tt, cAt_app kd]
      by_cases c1 : (i : Int) < d
      · rw [if_pos c1, if_neg (show ¬ (i : Int) = d by omega), nthS_app w, t]
        by_cases c2 : (i : Int) < reached
        · rw [if_pos c2, n]
        · rw [if_neg c2, ← n, nthS_far w (by omega), nthS_c]
          split <;> rfl
      · rw [if_neg c1]
        by_cases c2 : (i : Int) = d
        · rw [if_pos c2, nthS_c, if_pos (by omega)]
        · rw [if_neg c2, nthS_c, if_neg (by omega), ← n, nthS_far w (by omega)]
          rfl
    · rw [e]; simp; omega
  · rw [if_neg c]
    have hd : reached = d := by omega
    subst hd
    have app : ∀ (h : ∀ y, row.getLast? = some y → s ≠ y.1), RowI sg (row ++ [(s, 1)], reached + 1) (ps ++ [(reached, s)]) := fun h => by
      refine ⟨RowW.snoc.mpr ⟨w, ⟨⟨by show 0 ≤ s; omega, hs.2⟩, by show (1 : Int) ≤ 1; decide⟩, h⟩, fun y hy => ?_, ?_, fun i => ?_, ks, ?_⟩
      · rw [List.getLast?_append] at hy
        simp at hy
        subst hy
        show s ≠ 0
        omega
      · show totS (row ++ [(s, 1)]) = _
        rw [totS_app', t]
        simp [totS]
      · show nthS (row ++ [(s, 1)]) i = _
        rw [nthS_app w, cAt_app kd, t]
        by_cases c1 : (i : Int) < reached
        · rw [if_pos c1, if_neg (by omega), n]
        · rw [if_neg c1]
          by_cases c2 : (i : Int) = reached
          · rw [if_pos c2, nthS_c, if_pos (by omega)]
          · rw [if_neg c2, nthS_c, if_neg (by omega), ← n, nthS_far w (by omega)]
            rfl
      · simp; omega
    rcases List.eq_nil_or_concat row with e | ⟨init, y, e⟩
    · subst e
      exact app fun y hy => by simp at hy
    · obtain ⟨u, m⟩ := y
      have e : row = init ++ [(u, m)] := by simpa using e
      rw [e, bumpR_snoc]
      by_cases c1 : u = s
      · rw [if_pos c1]
        subst c1
        rw [e] at w t n len
        obtain ⟨w1, w2, w3⟩ := RowW.snoc.mp w
        have hm := w2.2
        dsimp only at hm
        have ti := (totS_ok w1).1
        have t' : totS init + m = reached := by rw [totS_app'] at t; simpa [totS] using t
        refine ⟨RowW.snoc.mpr ⟨w1, ⟨w2.1, by show 1 ≤ m + 1; omega⟩, w3⟩, fun y hy => ?_, ?_, fun i => ?_, ks, ?_⟩
        · rw [List.getLast?_append] at hy
          simp at hy
          subst hy
          show u ≠ 0
          omega
        · show totS (init ++ [(u, m + 1)]) = _
          rw [totS_app']
          simp [totS]
          omega
        · have hn := n i
          rw [nthS_app w1] at hn
          show nthS (init ++ [(u, m + 1)]) i = _
          rw [nthS_app w1, cAt_app kd]
          by_cases c1 : (i : Int) < totS init
          · rw [if_pos c1] at hn ⊢
            rw [if_neg (by omega), hn]
          · rw [if_neg c1] at hn ⊢
            rw [nthS_c] at hn ⊢
            by_cases c2 : (i : Int) = reached
            · rw [if_pos c2, if_pos (by omega)]
            · rw [if_neg c2, ← hn]
              by_cases c3 : (i : Int) < reached
              · rw [if_pos (by omega), if_pos (by omega)]
              · rw [if_neg (by omega), if_neg (by omega)]
                rfl
        · simp at len ⊢; omega
      · rw [if_neg c1, ← e]
        refine app fun y hy => ?_
        rw [e, List.getLast?_append] at hy
        simp at hy
        subst hy
        exact fun z => c1 z.symm
theorem foldR_J {sg : Nat} (qs : Cells) : PsA sg qs.reverse → RowI sg (foldR qs.reverse) qs.reverse ∧ (∀ M : Int, 0 ≤ M → (∀ x ∈ qs.reverse, x.1 < M) → (foldR qs.reverse).2 ≤ M) := by
  induction qs with
  | nil => exact fun _ => ⟨⟨trivial, by simp [foldR], rfl, fun i => rfl, by simp, by simp [foldR]⟩, fun M h _ => h⟩
  | cons y qs ih =>
  intro h
  rw [List.reverse_cons] at h ⊢
  generalize qs.reverse = ps at *
  obtain ⟨d, s⟩ := y
  have a := List.pairwise_append.mp h.a
  obtain ⟨I, hM⟩ := ih ⟨fun x hx => h.d x (List.mem_append_left _ hx), a.1⟩
  have hd := h.d (d, s) (by simp)
  rw [foldR_snoc]
  refine ⟨I.step (hM d hd.1 fun x hx => a.2.2 x hx (d, s) (by simp)) hd.2, fun M h0 hm => ?_⟩
  have := hm (d, s) (by simp)
  show d + 1 ≤ M
  have : d < M := this
  omega
theorem foldR_I {sg : Nat} (ps : Cells) (h : PsA sg ps) : RowI sg (foldR ps) ps ∧ (∀ M : Int, 0 ≤ M → (∀ x ∈ ps, x.1 < M) → (foldR ps).2 ≤ M) := by
  have := foldR_J (sg := sg) ps.reverse
  rw [List.reverse_reverse] at this
  exact this h
theorem rowOf_ok {sg : Nat} {ps : Cells} (h : PsA sg ps) : RowOk sg (rowOf ps) ∧ (∀ i : Nat, nthS (rowOf ps) i = cAt ps i) ∧ (rowOf ps).length ≤ 2 * ps.length ∧ ∀ M : Int, 0 ≤ M → (∀ x ∈ ps, x.1 < M) → totS (rowOf ps) ≤ M := by
  obtain ⟨I, hM⟩ := foldR_I ps h
  exact ⟨⟨I.w, I.l⟩, I.n, I.len, fun M h0 hm => by
    have := hM M h0 hm
    have e := I.t
    unfold rowOf
    omega⟩
/-- like rows are the same -/
theorem row_ext {sg : Nat} : ∀ {a b : Row}, RowOk sg a → RowOk sg b → (∀ i, nthS a i = nthS b i) → a = b
  | [], [], _, _, _ => rfl
  | [], (s, n) :: r, ha, hb, h => by
    exfalso
    obtain ⟨init, ⟨u, m⟩, e⟩ := (List.eq_nil_or_concat ((s, n) :: r)).resolve_left (by simp)
    have e : (s, n) :: r = init ++ [(u, m)] := by simpa using e
    rw [e] at hb h
    obtain ⟨w1, w2, _⟩ := RowW.snoc.mp hb.1
    have hm := w2.2
    dsimp only at hm
    have hl := hb.2 (u, m) (by simp)
    have ht := (totS_ok w1).1
    have := h (totS init).toNat
    rw [nthS_app w1, if_neg (by omega), nthS_c, if_pos (by omega)] at this
    exact hl this.symm
  | (s, n) :: r, [], ha, hb, h => by
    exfalso
    obtain ⟨init, ⟨u, m⟩, e⟩ := (List.eq_nil_or_concat ((s, n) :: r)).resolve_left (by simp)
    have e : (s, n) :: r = init ++ [(u, m)] := by simpa using e
    rw [e] at ha h
    obtain ⟨w1, w2, _⟩ := RowW.snoc.mp ha.1
    have hm := w2.2
    dsimp only at hm
    have hl := ha.2 (u, m) (by simp)
    have ht := (totS_ok w1).1
    have := h (totS init).toNat
    rw [nthS_app w1, if_neg (by omega), nthS_c, if_pos (by omega)] at this
    exact hl this
  | (s, n) :: r, (s', n') :: r', ha, hb, h => by
    have hn := ha.1.1.2
    have hn' := hb.1.1.2
    dsimp only at hn hn'
    have e0 := h 0
    rw [nthS_c, nthS_c, if_pos (by omega), if_pos (by omega)] at e0
    subst e0
    have head : ∀ {n : Int} {r : Row}, RowOk sg ((s, n) :: r) → nthS r 0 ≠ s := fun {n r} g z => by
      cases r with
      | nil => exact g.2 (s, n) (by simp) z.symm
      | cons y r =>
        obtain ⟨u, m⟩ := y
        have hm := g.1.2.2.1.2
        dsimp only at hm
        rw [nthS_c, if_pos (by omega)] at z
        exact g.1.2.1 (by simp [heads, z])
    have en : n = n' := by
      rcases Int.lt_trichotomy n n' with c | c | c
      · have e := h n.toNat
        rw [nthS_c, nthS_c, if_neg (by omega), if_pos (by omega), Nat.sub_self] at e
        exact absurd e (head ha)
      · exact c
      · have e := h n'.toNat
        rw [nthS_c, nthS_c, if_pos (by omega), if_neg (by omega), Nat.sub_self] at e
        exact absurd e.symm (head hb)
    subst en
    have tl : ∀ {r : Row}, RowOk sg ((s, n) :: r) → RowOk sg r := fun {r} g => ⟨g.1.2.2, fun y hy => g.2 y (by
      cases r with
      | nil => simp at hy
      | cons z r => rw [List.getLast?_cons_cons]; exact hy)⟩
    rw [row_ext (tl ha) (tl hb) fun i => ?_]
    have e := h (n.toNat + i)
    rw [nthS_c, nthS_c, if_neg (by omega), if_neg (by omega)] at e
    simpa using e
/-! seen from the machine -/
structure CelOk (sg : Nat) (c : Cells) : Prop where
  n : (c.map (·.1)).Nodup
  v : ∀ x ∈ c, 0 < x.2 ∧ x.2 < sg
theorem mem_cel {c : Cells} (hn : (c.map (·.1)).Nodup) (hv : ∀ x ∈ c, x.2 ≠ 0) {k v : Int} : (k, v) ∈ c ↔ v ≠ 0 ∧ cAt c k = v := by
  constructor
  · intro hm
    exact ⟨hv _ hm, cAt_of hn hm⟩
  · rintro ⟨h1, h2⟩
    unfold cAt cGet at h2
    cases e : c.find? fun y => decide (y.1 = k) with
    | none => rw [e] at h2; exact absurd h2.symm h1
    | some y =>
      rw [e] at h2
      have h3 := List.find?_some e
      have h4 := List.mem_of_find?_eq_some e
      simp at h2 h3
      obtain ⟨y1, y2⟩ := y
      simp at h2 h3
      subst h2; subst h3
      exact h4
theorem cAt_like {c d : Cells} {k k' : Int} (hn : (c.map (·.1)).Nodup) (hv : ∀ x ∈ c, x.2 ≠ 0) (hn' : (d.map (·.1)).Nodup) (hv' : ∀ x ∈ d, x.2 ≠ 0) (h : ∀ v, (k', v) ∈ d ↔ (k, v) ∈ c) : cAt d k' = cAt c k := by
  by_cases e : cAt c k = 0
  · by_cases e' : cAt d k' = 0
    · rw [e, e']
    · have := (mem_cel hn hv).mp ((h _).mp ((mem_cel hn' hv').mpr ⟨e', rfl⟩))
      exact this.2.symm
  · have := (mem_cel hn' hv').mp ((h _).mpr ((mem_cel hn hv).mpr ⟨e, rfl⟩))
    exact this.2
def leftM (p : Int) (m : Cells) : Cells := (m.reverse.filter fun x => decide (x.1 < p)).map fun x => (p - 1 - x.1, x.2)
def rightM (p : Int) (m : Cells) : Cells := (m.filter fun x => decide (p ≤ x.1)).map fun x => (x.1 - p, x.2)
theorem rise_nd {m : Cells} (h : m.Pairwise fun a b => a.1 < b.1) : (m.map (·.1)).Nodup := by
  rw [List.nodup_iff_pairwise_ne, List.pairwise_map]
  exact h.imp fun e => by omega
theorem leftM_ok {sg : Nat} {p : Int} {m : Cells} (hr : m.Pairwise fun a b => a.1 < b.1) (hv : ∀ x ∈ m, 0 < x.2 ∧ x.2 < sg) : PsA sg (leftM p m) := by
  refine ⟨fun x hx => ?_, ?_⟩
  · obtain ⟨y, hy, rfl⟩ := List.mem_map.mp hx
    obtain ⟨h1, h2⟩ := List.mem_filter.mp hy
    have := hv y (List.mem_reverse.mp h1)
    simp at h2
    exact ⟨by show 0 ≤ p - 1 - y.1; omega, this⟩
  · unfold leftM
    rw [List.pairwise_map]
    exact ((List.pairwise_reverse.mpr hr).filter _).imp fun e => by simp; omega
theorem rightM_ok {sg : Nat} {p : Int} {m : Cells} (hr : m.Pairwise fun a b => a.1 < b.1) (hv : ∀ x ∈ m, 0 < x.2 ∧ x.2 < sg) : PsA sg (rightM p m) := by
  refine ⟨fun x hx => ?_, ?_⟩
  · obtain ⟨y, hy, rfl⟩ := List.mem_map.mp hx
    obtain ⟨h1, h2⟩ := List.mem_filter.mp hy
    simp at h2
    exact ⟨by show 0 ≤ y.1 - p; omega, hv y h1⟩
  · unfold rightM
    rw [List.pairwise_map]
    exact (hr.filter _).imp fun e => by simp; omega
/-- the stretches of a shot -/
def seenR (y : Cf) : Rb := ⟨y.q, rowOf (leftM y.p (sortC y.c)), rowOf (rightM y.p (sortC y.c)), y.p⟩
theorem sortC_v {sg : Nat} {c : Cells} (h : CelOk sg c) : ∀ x ∈ sortC c, 0 < x.2 ∧ x.2 < sg := fun x hx => h.v x ((sortC_of h.n).1.mem_iff.mp hx)
theorem seen_rep {sg : Nat} {y : Cf} (h : CelOk sg y.c) : Rep (seenR y) y ∧ RowOk sg (seenR y).l ∧ RowOk sg (seenR y).r := by
  have hr := sortC_rise h.n
  have hv := sortC_v h
  have hz : ∀ x ∈ y.c, x.2 ≠ 0 := fun x hx => by have := h.v x hx; omega
  have hm : ∀ k v, (k, v) ∈ sortC y.c ↔ (k, v) ∈ y.c := fun k v => (sortC_of h.n).1.mem_iff
  have l := leftM_ok (p := y.p) hr hv
  have r := rightM_ok (p := y.p) hr hv
  obtain ⟨l1, l2, _⟩ := rowOf_ok l
  obtain ⟨r1, r2, _⟩ := rowOf_ok r
  refine ⟨⟨rfl, rfl, fun i => ?_, fun i => ?_⟩, l1, r1⟩
  · show cAt y.c (y.p + i) = nthS (rowOf _) i
    rw [r2]
    refine (cAt_like h.n hz (rise_nd r.a) (fun x hx => by have := r.d x hx; omega) fun v => ?_).symm
    rw [← hm]
    unfold rightM
    rw [List.mem_map]
    constructor
    · rintro ⟨z, hz, e⟩
      obtain ⟨h1, h2⟩ := List.mem_filter.mp hz
      have e1 := congrArg Prod.fst e
      have e2 := congrArg Prod.snd e
      dsimp only at e1 e2
      have : z = (y.p + i, v) := Prod.ext (by show z.1 = _; omega) e2
      rw [← this]
      exact h1
    · intro hv
      exact ⟨_, List.mem_filter.mpr ⟨hv, by simp only [decide_eq_true_eq]; omega⟩, by simp; omega⟩
  · show cAt y.c (y.p - 1 - i) = nthS (rowOf _) i
    rw [l2]
    refine (cAt_like h.n hz (rise_nd l.a) (fun x hx => by have := l.d x hx; omega) fun v => ?_).symm
    rw [← hm]
    unfold leftM
    rw [List.mem_map]
    constructor
    · rintro ⟨z, hz, e⟩
      obtain ⟨h1, h2⟩ := List.mem_filter.mp hz
      have e1 := congrArg Prod.fst e
      have e2 := congrArg Prod.snd e
      dsimp only at e1 e2
      have : z = (y.p - 1 - i, v) := Prod.ext (by show z.1 = _; omega) e2
      rw [← this]
      exact List.mem_reverse.mp h1
    · intro hv
      exact ⟨_, List.mem_filter.mpr ⟨List.mem_reverse.mpr hv, by simp; omega⟩, by simp; omega⟩
end My

/-! tuples of one's own, that hold things of one's own -/
namespace VL
open PySem PySem.Spec PyProof.Rows L2
section
variable {K : PySem.W.Frag} {W : WX} {G G' H H' H0 : Hp} {σ : L2.St} {ρ : Rho} {f f' : Own} {pin : Nat → Option V} {X : Cx} {S S0 S1 S2 T T1 T2 U : Sta} {E : En} {Z : Ends}
/-- frozen things and new ones, of which no two share an address -/
inductive HasN (K : PySem.W.Frag) (S0 S : Sta) : List V → List (Kd × D) → List Addr → Prop
  | nil : HasN K S0 S [] [] []
  | fz {v : V} {d : D} {vs : List V} {ds : List (Kd × D)} {fp : List Addr} : Dt K S.G v d → HasN K S0 S vs ds fp → HasN K S0 S (v :: vs) ((.fz, d) :: ds) fp
  | new {m : Md} {v : V} {d : D} {fq : List Addr} {vs : List V} {ds : List (Kd × D)} {fp : List Addr} : R K S.G S.H m v d fq → fq.Nodup → (∀ a ∈ fq, S.G a = none ∧ ¬ Ow S.f a ∧ Nw S0 a) → (∀ a ∈ fq, a ∉ fp) → HasN K S0 S vs ds fp → HasN K S0 S (v :: vs) ((.new m, d) :: ds) (fq ++ fp)
theorem HasN.all {vs : List V} {ds : List (Kd × D)} {fp : List Addr} (h : HasN K S0 S vs ds fp) : fp.Nodup ∧ (∀ a ∈ fp, S.G a = none ∧ ¬ Ow S.f a ∧ Nw S0 a) ∧ ∀ a ∈ fp, S.H a ≠ none := by
  induction h with
  | nil => exact ⟨List.nodup_nil, fun _ h => (nomatch h), fun _ h => (nomatch h)⟩
  | fz _ _ ih => exact ih
  | new r n k dj _ ih =>
    refine ⟨List.nodup_append.mpr ⟨n, ih.1, fun a ha b hb c => dj a ha (c ▸ hb)⟩, fun a ha => ?_, fun a ha => ?_⟩
    · exact (List.mem_append.mp ha).elim (k a) (ih.2.1 a)
    · exact (List.mem_append.mp ha).elim (r.has a) (ih.2.2 a)
theorem HasN.from {vs : List V} {ds : List (Kd × D)} {fp : List Addr} (h : HasN K S0 T vs ds fp) (s : S.to S0) : HasN K S T vs ds fp := by
  induction h with
  | nil => exact .nil
  | fz h _ ih => exact .fz h ih
  | new r n k dj _ ih => exact .new r n (fun a ha => ⟨(k a ha).1, (k a ha).2.1, (k a ha).2.2.of s⟩) dj ih
theorem HasN.len {vs : List V} {ds : List (Kd × D)} {fp : List Addr} (h : HasN K S0 S vs ds fp) : vs.length = ds.length := by
  induction h with
  | nil => rfl
  | fz _ _ ih => simp [ih]
  | new _ _ _ _ _ ih => simp [ih]
abbrev lN : Rl (List V) (List (Kd × D)) := fun K S0 S vs xs => ∃ fp, HasN K S0 S vs xs fp
abbrev tn : PySem.W.Frag → WX → DE (List (Kd × D)) → TA := tgen lN
def isFN : Kd → Bool
  | .bor _ _ _ => false
  | _ => true
def wNilN : DE (List (Kd × D)) := fun ρ P => P.ok [] [] ρ
def wConsN (wa : DE (Kd × D)) (wr : DE (List (Kd × D))) : DE (List (Kd × D)) := fun ρ P => wa ρ ⟨fun p1 x ρ1 => wr ρ1 ⟨fun p2 xs ρ2 => isFN x.1 = true ∧ P.ok (p1 ++ p2) (x :: xs) ρ2, P.ex⟩, P.ex⟩
theorem tn_nil {Q : List V → Hp → Prop} (h : tn K W wNilN σ H Q) : tNil σ H Q := by
  obtain ⟨S, P, rfl, rfl, ok, w, k, _⟩ := h
  exact k _ _ S w rfl ok (Sta.refl S) (Tch.refl S _) [] ⟨_, .nil⟩
theorem tn_cons {wa : DE (Kd × D)} {wr : DE (List (Kd × D))} {Q : List V → Hp → Prop} (h : tn K W (wConsN wa wr) σ H Q) : tCons (te K W wa) (tn K W wr) σ H Q := by
  obtain ⟨S, P, rfl, rfl, ok, w, k, ex⟩ := h
  show te K W wa S.σ S.H fun x H1 => tn K W wr S.σ H1 fun xs H2 => Q (x :: xs) H2
  refine ⟨S, _, rfl, rfl, ok, w, fun p1 x S1 w1 e1 ok1 t1 pr1 v1 h1 => ?_, ex⟩
  refine ⟨S1, _, e1, rfl, ok1, w1, fun p2 xs S2 w2 e2 ok2 t2 pr2 vs h2 => ?_, fun C fl T e es okT tT dd hd => ex C fl T e es okT (t1.trans tT) dd hd⟩
  obtain ⟨hi, w2⟩ := w2
  obtain ⟨fp, h2⟩ := h2
  refine k _ _ S2 w2 e2 ok2 (t1.trans t2) (pr1.trans pr2) _ ?_
  obtain ⟨kd, d⟩ := x
  cases kd with
  | bor i q m => cases hi
  | fz => exact ⟨_, .fz (Dt.mono t2.stp.gext h1) (h2.from t1)⟩
  | new m =>
    obtain ⟨fq, r, n, kk⟩ := h1
    refine ⟨_, .new (r.keep t2.stp.gext fun a ha o q => t2.stp.keep a o q (kk a ha).2.1) n (fun a ha => ⟨?_, fun z => ?_, (kk a ha).2.2⟩) (fun a ha c => ?_) (h2.from t1)⟩
    · rw [t2.stp.gold a (r.has a ha) (kk a ha).2.1]; exact (kk a ha).1
    · rcases t2.stp.fnew a z with z | z
      · exact (kk a ha).2.1 z
      · exact r.has a ha z
    · rcases (h2.all.2.1 a c).2.2 with z | z
      · exact (kk a ha).2.1 z
      · exact r.has a ha z
theorem q_nilN : PA X [] (tn X.K W wNilN) := PA.imp pa_nil fun _ _ _ h => tn_nil h
theorem q_consN {e : Expr} {es : List Expr} {wa : DE (Kd × D)} {wr : DE (List (Kd × D))} (ha : PE X e (te X.K W wa)) (hr : PA X es (tn X.K W wr)) (hs : starEach (e :: es) X.env = (false, eval e X.env) :: starEach es X.env := by rfl) : PA X (e :: es) (tn X.K W (wConsN wa wr)) :=
  PA.imp (pa_cons ha hr hs) fun _ _ _ h => tn_cons h
def mdN : Kd → Md
  | .new m => m
  | _ => .F
/-- (x, y, ..), some of them new things -/
def wTupO (wa : DE (List (Kd × D))) : DE (Kd × D) := fun ρ P => wa ρ ⟨fun p xs ρ' => small xs.length = true ∧ P.ok p (.new (.T (xs.map fun x => mdN x.1)), .tup (xs.map (·.2))) ρ', P.ex⟩
theorem HasN.rs {vs : List V} {ds : List (Kd × D)} {fp : List Addr} (h : HasN K S0 S vs ds fp) (e : Ex S.G G') (k : ∀ a ∈ fp, ∀ o, S.H a = some o → H' a = some o) : RS K G' H' (ds.map fun x => mdN x.1) vs (ds.map (·.2)) fp := by
  induction h with
  | nil => exact .nil
  | fz h _ ih =>
    exact RS.cons (fp := []) (.F (h.mono e)) (ih k)
  | new r n kk dj _ ih => exact .cons (r.keep e fun a ha => k a (List.mem_append_left _ ha)) (ih fun a ha => k a (List.mem_append_right _ ha))
theorem te_tupO {wa : DE (List (Kd × D))} {Q : VK} (h : te K W (wTupO wa) σ H Q) : tTup (tn K W wa) σ H Q := by
  obtain ⟨S, P, rfl, rfl, ok, w, k, ex⟩ := h
  refine ⟨S, _, rfl, rfl, ok, w, fun p1 x S1 w1 e1 ok1 t1 pr1 v1 h1 => ?_, ex⟩
  obtain ⟨fp, h1⟩ := h1
  obtain ⟨n1, n2, n3⟩ := h1.all
  refine ⟨by rw [h1.len]; exact small_sz w1.1, fun p hp => ?_⟩
  have g : Grow S1.G S1.H (upd S1.G p (.tup v1)) (upd S1.H p (.tup v1)) := Grow.new ok1.ext hp
  refine k _ _ (S1.at (upd S1.G p (.tup v1)) (upd S1.H p (.tup v1))) w1.2 e1 (Sta.grow ok1 g) (t1.trans g.to) (pr1.add g.tch) _ ?_
  have np : p ∉ fp := fun c => n3 p c hp
  have hu : ∀ a ∈ fp, a ≠ p := fun a ha z => np (z ▸ ha)
  refine ⟨fp, .T upd_same (h1.rs g.gext fun a ha o ho => (upd_ne (hu a ha)).trans ho), n1, fun a ha => ?_⟩
  obtain ⟨q1, q2, q3⟩ := n2 a ha
  exact ⟨(upd_ne (hu a ha)).trans q1, q2, q3⟩
theorem q_tupO {es : List Expr} {x1 : Nat} {pos : Pos} {wa : DE (List (Kd × D))} (h : PA X es (tn X.K W wa)) : PE X (.Tuple es x1 pos) (te X.K W (wTupO wa)) := PE.imp (pe_tup h) fun _ _ _ h => te_tupO h
/-- a, b = x, y, new things -/
def parO (i j : Nat) (xs : List (Kd × D)) (ρ : Rho) (q : Rho → Prop) : Prop := match xs with
  | [(k1, d), (k2, e)] => (notP (mdN k1) = true ∧ notP (mdN k2) = true) ∧ okSlot ρ i = true ∧ okSlot (ρ.set i (some (mdN k1, d))) j = true ∧ q ((ρ.set i (some (mdN k1, d))).set j (some (mdN k2, e)))
  | _ => False
def wParO (i j : Nat) (wa : DE (List (Kd × D))) : DS := fun E ρ => wa ρ ⟨fun _ xs ρ' => parO i j xs ρ' E.nx, E.ex⟩
theorem HasN.one {v : V} {vs : List V} {x : Kd × D} {ds : List (Kd × D)} {fp : List Addr} (h : HasN K S0 S (v :: vs) (x :: ds) fp) : ∃ fq fr, fp = fq ++ fr ∧ R K S.G S.H (mdN x.1) v x.2 fq ∧ HasN K S0 S vs ds fr := by
  cases h with
  | fz h t => exact ⟨[], _, rfl, .F h, t⟩
  | new r n k dj t => exact ⟨_, _, rfl, r, t⟩
@[simp ↓] theorem wNilN_eq {P : Po (List (Kd × D))} : wNilN ρ P = P.ok [] [] ρ := rfl
@[simp ↓] theorem wConsN_eq {wa : DE (Kd × D)} {wr : DE (List (Kd × D))} {P : Po (List (Kd × D))} : wConsN wa wr ρ P = wa ρ ⟨fun p1 x ρ1 => wr ρ1 ⟨fun p2 xs ρ2 => isFN x.1 = true ∧ P.ok (p1 ++ p2) (x :: xs) ρ2, P.ex⟩, P.ex⟩ := rfl
@[simp ↓] theorem wTupO_eq {wa : DE (List (Kd × D))} {P : Po (Kd × D)} : wTupO wa ρ P = wa ρ ⟨fun p xs ρ' => small xs.length = true ∧ P.ok p (.new (.T (xs.map fun x => mdN x.1)), .tup (xs.map (·.2))) ρ', P.ex⟩ := rfl
@[simp ↓] theorem wParO_eq {i j : Nat} {wa : DE (List (Kd × D))} : wParO i j wa E ρ = wa ρ ⟨fun _ xs ρ' => parO i j xs ρ' E.nx, E.ex⟩ := rfl
@[simp ↓] theorem parO_eq {i j : Nat} {k1 k2 : Kd} {d e : D} {q : Rho → Prop} : parO i j [(k1, d), (k2, e)] ρ q = ((notP (mdN k1) = true ∧ notP (mdN k2) = true) ∧ okSlot ρ i = true ∧ okSlot (ρ.set i (some (mdN k1, d))) j = true ∧ q ((ρ.set i (some (mdN k1, d))).set j (some (mdN k2, e)))) := rfl
@[simp ↓] theorem isFN_f : isFN .fz = true := rfl
@[simp ↓] theorem isFN_n {m : Md} : isFN (.new m) = true := rfl
@[simp ↓] theorem mdN_f : mdN .fz = .F := rfl
@[simp ↓] theorem mdN_n {m : Md} : mdN (.new m) = m := rfl
@[simp ↓] theorem dSet_t {ds : List D} {j : Nat} {p : List Nat} {x : D} : dSet (.tup ds) (j :: p) x = match ds[j]? with
  | some d => .tup (ds.set j (dSet d p x))
  | none => .tup ds := by
  show (match ds[j]? with | some d' => setKid (.tup ds) j (dSet d' p x) | none => .tup ds) = _
  cases ds[j]? <;> rfl
@[simp ↓] theorem storeK_T {i : Nat} {ms : List Md} {d : D} {q : Rho → Prop} : storeK i (.new (.T ms), d) ρ q = stK i (.T ms, d) ρ q := by simp [storeK, notP]
@[simp ↓] theorem stK_T {ms : List Md} {d : D} {md : Md × D} {q : Rho → Prop} : stK 0 md (some (.T ms, d) :: ρ) q = q (some md :: ρ) := by simp [stK, okSlot]
@[simp ↓] theorem kAt_T {i : Nat} {p : List Nat} {ms : List Md} : kAt i p (.T ms) = .bor i p (.T ms) := rfl
@[simp ↓] theorem st_T {ms : List Md} : Md.st (.T ms) = .T ms := rfl
@[simp ↓] theorem notP_T {ms : List Md} : notP (.T ms) = true := rfl
@[simp ↓] theorem ixN_20 : ixN 2 0 = some 0 := by decide
@[simp ↓] theorem ixN_21 : ixN 2 1 = some 1 := by decide
@[simp ↓] theorem ixN_30 : ixN 3 0 = some 0 := by decide
@[simp ↓] theorem ixN_31 : ixN 3 1 = some 1 := by decide
@[simp ↓] theorem ixN_32 : ixN 3 2 = some 2 := by decide
/-! isinstance(x, (C1, C2, ..)) of a kept exception -/
def tCs : List V → TA
  | [] => tNil
  | c :: cs => tCons (tC c) (tCs cs)
def rIsKM (K : PySem.W.Frag) : List V → Hp → VK → Prop := fun xs H Q => ∃ (a D tp : Addr) (cs : List V) (us : List Value) (b : Bool), xs = [.ref a, .ref tp] ∧ H a = some (VL.ExK (.ref D) a) ∧ ExcC K D ∧ H tp = some (.tup cs) ∧ Paired ClsV cs us ∧ PySem.W.kitAny K (.ref D) us = some b ∧ Q (.bl b) H
end
end VL

/-! ranges of any numbers; "..".join(xs); texts put together -/
namespace VLL
open PySem PySem.Spec PyProof.Rows L2
section
variable {X : Cx} {tg : Expr}
def iRngL (ta : TA) : TI := fun σ H R => ta σ H fun vs H1 => ∃ i j : Int, vs = [.int i, .int j] ∧ R (Itr i (j - i).toNat) H1
end
end VLL
namespace VL
open PySem PySem.Spec PyProof.Rows L2
section
variable {K : PySem.W.Frag} {W : WX} {G G' H H' H0 : Hp} {σ : L2.St} {ρ : Rho} {X : Cx} {S S0 S1 T T1 T2 U : Sta} {E : En} {Z : Ends}
def rngL (xs : List (Kd × D)) (q : List D → Prop) : Prop := match xs with
  | [(_, .int i), (_, .int j)] => q (rangeD i (j - i).toNat)
  | _ => False
def wRngL (wa : DE (List (Kd × D))) : DE (List D) := fun ρ P => wa ρ ⟨fun p xs ρ' => rngL xs fun ds => P.ok p ds ρ', P.ex⟩
@[simp ↓] theorem wRngL_eq {wa : DE (List (Kd × D))} {P : Po (List D)} : wRngL wa ρ P = wa ρ ⟨fun p xs ρ' => rngL xs fun ds => P.ok p ds ρ', P.ex⟩ := rfl
@[simp ↓] theorem rngL_eq {k k' : Kd} {i j : Int} {q : List D → Prop} : rngL [(k, .int i), (k', .int j)] q = q (rangeD i (j - i).toNat) := rfl
/-! texts -/
def strsOf : List D → Option (List Str)
  | [] => some []
  | .str x :: r => match strsOf r with
    | some xs => some (x :: xs)
    | none => none
  | _ :: _ => none
@[simp] theorem strsOf_map {α : Type} {f : α → Str} : ∀ {xs : List α}, strsOf (xs.map fun x => D.str (f x)) = some (xs.map f)
  | [] => rfl
  | x :: xs => by simp [strsOf, strsOf_map (f := f) (xs := xs)]
def wJoin (a : Str) (we : DE (Kd × D)) : DE (Kd × D) := fun ρ P => we ρ ⟨fun p y ρ' => lstK y fun ds => optK (strsOf ds) fun ys => (ys.map (·.length)).sum + ys.length * a.length ≤ 100000 ∧ P.ok p (.fz, .str (Txt.join a ys)) ρ', P.ex⟩
@[simp ↓] theorem wJoin_eq {a : Str} {we : DE (Kd × D)} {P : Po (Kd × D)} : wJoin a we ρ P = we ρ ⟨fun p y ρ' => lstK y fun ds => optK (strsOf ds) fun ys => (ys.map (·.length)).sum + ys.length * a.length ≤ 100000 ∧ P.ok p (.fz, .str (Txt.join a ys)) ρ', P.ex⟩ := rfl
/-- x += y, texts -/
def oAddS : O2 := fun x y q => match x.2, y.2 with
  | .str a, .str b => small (a.length + b.length) = true ∧ q (.fz, .str (a ++ b))
  | _, _ => False
@[simp ↓] theorem oAddS_eq {k k' : Kd} {a b : Str} {q : Kd × D → Prop} : oAddS (k, .str a) (k', .str b) q = (small (a.length + b.length) = true ∧ q (.fz, .str (a ++ b))) := rfl
end
end VL

/-! arguments that are handed over for good; tuples of one's own taken apart -/
namespace VL
open PySem PySem.Spec PyProof.Rows L2
section
variable {K : PySem.W.Frag} {W : WX} {G G' H H' H0 : Hp} {σ : L2.St} {ρ : Rho} {f f' : Own} {pin : Nat → Option V} {X : Cx} {S S0 S1 S2 T T1 T2 U : Sta} {E : En} {Z : Ends}
/-! ### a, b, .. = a tuple of one's own -/
def gNames : List Nat → TGs
  | [] => gNil
  | i :: is => gCons (gName i) (gNames is)
def asgO : List Nat → List Md → List D → Rho → (Rho → Prop) → Prop
  | [], [], [], ρ, q => q ρ
  | i :: is, m :: ms, d :: ds, ρ, q => notP m = true ∧ okSlot ρ i = true ∧ asgO is ms ds (ρ.set i (some (m, d))) q
  | _, _, _, _, _ => False
def asgT (is : List Nat) (x : Kd × D) (ρ : Rho) (q : Rho → Prop) : Prop := match x with
  | (.new (.T ms), .tup ds) => asgO is ms ds ρ q
  | _ => False
def wAsgO (is : List Nat) (we : DE (Kd × D)) : DS := fun E ρ => we ρ ⟨fun _ x ρ' => asgT is x ρ' E.nx, E.ex⟩
theorem asgO_run {Q : L2.St → Hp → Prop} {q : Rho → Prop} : ∀ {is : List Nat} {ms : List Md} {ds : List D} {xs : List V} {fp : List Addr} {T : Sta}, T.ok K → S.to T → RS K T.G T.H ms xs ds fp → fp.Nodup → (∀ a ∈ fp, T.G a = none ∧ ¬ Ow T.f a ∧ Nw S a) → asgO is ms ds T.ρ q →
    (∀ U : Sta, q U.ρ → U.ok K → S.to U → Q U.σ U.H) → gNames is xs T.σ T.H Q
  | [], [], [], xs, fp, T, ok, t, r, n, k, w, fin => by
    cases r
    exact ⟨rfl, fin T w ok t⟩
  | i :: is, m :: ms, d :: ds, xs, fp, T, ok, t, r, n, k, w, fin => by
    cases r with
    | @cons _ _ v _ vs _ fq fr r1 r2 =>
      obtain ⟨w1, w2, w3⟩ := w
      have nn := List.nodup_append.mp n
      have k1 : ∀ a ∈ fq, T.G a = none ∧ ¬ Ow T.f a ∧ Nw S a := fun a ha => k a (List.mem_append_left _ ha)
      have k2 : ∀ a ∈ fr, T.G a = none ∧ ¬ Ow T.f a ∧ Nw S a := fun a ha => k a (List.mem_append_right _ ha)
      have s1 := Sx.put ok w2 w1 r1 nn.1 fun a h => ⟨(k1 a h).1, fun z => absurd z (k1 a h).2.1⟩
      refine ⟨v, vs, rfl, ?_⟩
      refine asgO_run (T := T.put i v m d fq) s1 (t.put fun a h => (k1 a h).2.2) r2 nn.2.1 (fun a ha => ⟨(k2 a ha).1, fun z => ?_, (k2 a ha).2.2⟩) w3 fin
      obtain ⟨c, hc⟩ := z
      by_cases ci : c = i
      · subst ci
        have hc : a ∈ T.f.set c fq c := hc
        rw [Own.set_same] at hc
        exact nn.2.2 a hc a ha rfl
      · have hc : a ∈ T.f.set i fq c := hc
        rw [Own.set_ne ci] at hc
        exact (k2 a ha).2.1 ⟨c, hc⟩
  | [], [], _ :: _, _, _, _, _, _, _, _, _, w, _ => w.elim
  | [], _ :: _, _, _, _, _, _, _, _, _, _, w, _ => w.elim
  | _ :: _, [], _, _, _, _, _, _, _, _, _, w, _ => w.elim
  | _ :: _, _ :: _, [], _, _, _, _, _, _, _, _, w, _ => w.elim
theorem asgO_len {q : Rho → Prop} : ∀ {is : List Nat} {ms : List Md} {ds : List D} {ρ : Rho}, asgO is ms ds ρ q → ds.length = is.length
  | [], [], [], _, _ => rfl
  | _ :: is, _ :: ms, _ :: ds, _, w => by simp [asgO_len (is := is) (ms := ms) (ds := ds) w.2.2]
  | [], [], _ :: _, _, w => w.elim
  | [], _ :: _, _, _, w => w.elim
  | _ :: _, [], _, _, w => w.elim
  | _ :: _, _ :: _, [], _, w => w.elim
theorem RS.lenV {ms : List Md} {vs : List V} {ds : List D} {fp : List Addr} (h : RS K G H ms vs ds fp) : vs.length = ds.length ∧ ms.length = ds.length := by
  induction ds generalizing ms vs fp with
  | nil => cases h; exact ⟨rfl, rfl⟩
  | cons d ds ih =>
    cases h with
    | cons _ t =>
      have := ih t
      simp [this]
theorem ts_asgO {is : List Nat} {we : DE (Kd × D)} (h : ts K W (wAsgO is we) Z σ H) : tAsg (te K W we) (gTup K is.length (gNames is)) Z σ H := by
  obtain ⟨S, E, rfl, rfl, ok, w, l⟩ := h
  show te K W we S.σ S.H fun x H1 => gTup K is.length (gNames is) x S.σ H1 Z.nx
  refine te_in ok l w fun p x T e es okT t _ v hv => ?_
  obtain ⟨kd, d⟩ := x
  have e : asgT is (kd, d) T.ρ E.nx := e
  unfold asgT at e
  split at e
  · rename_i ms ds hx
    cases hx
    obtain ⟨fp, r, n, k⟩ := hv
    cases r with
    | @T _ a xs _ _ hG rs =>
      refine ⟨a, xs, rfl, .inl (.inl (okT.ext _ _ hG)), by rw [rs.lenV.1]; exact asgO_len e, ?_⟩
      rw [← es]
      exact asgO_run okT t rs n k e fun U eU okU tU => l.nx U eU okU tU
  · exact e.elim
theorem pgs_names0 : PGs X [] (gNames []) := pgs_nil
theorem pgs_namesC {i : Nat} {x : Str} {es : List Expr} {is : List Nat} {px : Pos} (hN : X.N.Nodup) (h : PGs X es (gNames is)) (hi : X.N[i]? = some x := by rfl) (hx : Loc X.env.scope x := by first | exact Or.inl rfl | exact Or.inr rfl) (hf : X.fn x = true ∨ X.env.scope.names.lookup x = some .local := by first | exact .inl rfl | exact .inr rfl | assumption)
    (hs : (assignEach (.Name x px :: es) X.env).map (·.2) = assign (.Name x px) X.env :: (assignEach es X.env).map (·.2) := by rfl) : PGs X (.Name x px :: es) (gNames (i :: is)) := pgs_cons (pg_name hN hi hx hf) h hs
theorem q_asgO {is : List Nat} {es : List Expr} {e : Expr} {we : DE (Kd × D)} {k : Nat} {pt pos : Pos} (hc : X.calm = true) (he : PE X e (te X.K W we)) (hg : PGs X es (gNames is)) (hs : swapsWithSole [.Tuple es k pt] e pos.line X.env = pure false := by rfl) (hw : swappedStores [.Tuple es k pt] e X.env = pure none := by rfl)
    (h1 : (assignEach [.Tuple es k pt] X.env).map (·.2) = [assign (.Tuple es k pt) X.env] := by rfl) (hn : (assignEach es X.env).length = is.length := by rfl) (hst : (assignEach es X.env).findIdx? (·.1) = none := by rfl) :
    PS X (.Assign [.Tuple es k pt] e pos) (ts X.K W (wAsgO is we)) := PS.imp (ps_asg he (pg_tup hc hg hn hst) hs hw h1) fun _ _ _ h => ts_asgO h
@[simp ↓] theorem wAsgO_eq {is : List Nat} {we : DE (Kd × D)} : wAsgO is we E ρ = we ρ ⟨fun _ x ρ' => asgT is x ρ' E.nx, E.ex⟩ := rfl
@[simp ↓] theorem asgT_eq {is : List Nat} {ms : List Md} {ds : List D} {q : Rho → Prop} : asgT is (.new (.T ms), .tup ds) ρ q = asgO is ms ds ρ q := rfl
@[simp ↓] theorem asgO_n {q : Rho → Prop} : asgO [] [] [] ρ q = q ρ := rfl
@[simp ↓] theorem asgO_c {i : Nat} {is : List Nat} {m : Md} {ms : List Md} {d : D} {ds : List D} {q : Rho → Prop} : asgO (i :: is) (m :: ms) (d :: ds) ρ q = (notP m = true ∧ stK i (m, d) ρ fun ρ' => asgO is ms ds ρ' q) := rfl

/-! ### defs whose parameters are handed over for good -/
def keepM : Md → Bool
  | .F => true
  | .P _ => true
  | _ => false
def zrM : List Md → List D → Rho
  | m :: ms, d :: ds => (if keepM m = true then some (m, d) else none) :: zrM ms ds
  | _, _ => []
def spM (K : PySem.W.Frag) (ms : List Md) (Wf : DF) : Sp := fun vs H Q E =>
  ∃ (S : Sta) (ds : List D) (P : Pf), S.H = H ∧ S.σ = vs.map some ∧ S.pin = (fun i => vs[i]?) ∧ vs.length = ms.length ∧ ds.length = ms.length ∧ S.ρ = zr ms ds ∧ S.ok K ∧ Wf ds P ∧
    (∀ x ds' (T : Sta), P.ok x ds' → ds'.length = ms.length → T.σ = vs.map some → T.ρ = zrM ms ds' → T.ok K → S.to T → retK x.1 = true → ∀ v : V, Has K S T x.1 v x.2 → Q v T.H) ∧
    (∀ C fl ds' (T : Sta), P.ex C fl ds' → ds'.length = ms.length → T.σ = vs.map some → T.ρ = zrM ms ds' → T.ok K → S.to T → ∀ dd : Option Addr, XD K T.G T.H dd fl → E (.ref C) dd T.H)
def finM : List Md → List D → Rho → (List D → Prop) → Prop
  | [], _, _, q => q []
  | .P m :: ms, _ :: ds, some (.P m', d) :: ρ, q => m' = m ∧ finM ms ds ρ fun r => q (d :: r)
  | .P _ :: _, _, _, _ => False
  | _ :: ms, d :: ds, _ :: ρ, q => finM ms ds ρ fun r => q (d :: r)
  | _, _, _, _ => False
def endsM (ms : List Md) (ds : List D) (P : Pf) : En where
  nx := fun ρ => finM ms ds ρ fun ds' => P.ok (.fz, .non) ds'
  rt := fun x ρ => retK x.1 = true ∧ finM ms ds ρ fun ds' => P.ok x ds'
  bk := fun _ => False
  ct := fun _ => False
  ex := fun C fl ρ => finM ms ds ρ fun ds' => P.ex C fl ds'
theorem zrM_len : ∀ {ms : List Md} {ds : List D}, ds.length = ms.length → (zrM ms ds).length = ms.length
  | [], [], _ => rfl
  | _ :: ms, _ :: ds, h => by simp [zrM, zrM_len (ms := ms) (ds := ds) (by simpa using h)]
  | [], _ :: _, h => by simp at h
  | _ :: _, [], h => by simp at h
theorem zrM_get : ∀ {ms : List Md} {ds : List D} {k : Nat} {m : Md} {d : D}, (zrM ms ds)[k]? = some (some (m, d)) ↔ keepM m = true ∧ ms[k]? = some m ∧ ds[k]? = some d
  | [], _, k, m, d => by simp [zrM]
  | _ :: _, [], k, m, d => by simp [zrM]
  | m' :: ms, d' :: ds, 0, m, d => by
    simp only [zrM, List.getElem?_cons_zero, Option.some.injEq]
    split
    · rename_i c
      simp only [Option.some.injEq, Prod.mk.injEq]
      exact ⟨fun ⟨a, b⟩ => ⟨a ▸ c, a, b⟩, fun ⟨_, a, b⟩ => ⟨a, b⟩⟩
    · rename_i c
      constructor
      · intro h; cases h
      · rintro ⟨a, b, _⟩
        exact absurd (b ▸ a) c
  | m' :: ms, d' :: ds, k + 1, m, d => by
    simp only [zrM, List.getElem?_cons_succ]
    exact zrM_get
theorem finM_of : ∀ {ms : List Md} {ds : List D} {ρ : Rho} {q : List D → Prop}, finM ms ds ρ q → ∃ ds', q ds' ∧ ds'.length = ms.length ∧
    ∀ (k : Nat) (m : Md) (d : D), ms[k]? = some m → ds'[k]? = some d → keepM m = true → (m = .F ∧ ds[k]? = some d) ∨ (∃ m1, m = .P m1 ∧ ρ[k]? = some (some (.P m1, d)))
  | [], _, _, q, h => ⟨[], by simpa [finM] using h, rfl, by simp⟩
  | m0 :: ms, d0 :: ds, x :: ρ, q, h => by
    have key : (∃ m1 d1, m0 = .P m1 ∧ x = some (.P m1, d1) ∧ finM ms ds ρ fun r => q (d1 :: r)) ∨ ((∀ m1, m0 ≠ .P m1) ∧ finM ms ds ρ fun r => q (d0 :: r)) := by
      cases m0 with
      | P m1 =>
        left
        cases x with
        | none => exact h.elim
        | some y =>
          obtain ⟨m2, d2⟩ := y
          cases m2 with
          | P m3 =>
            obtain ⟨rfl, h⟩ := h
            exact ⟨_, _, rfl, rfl, h⟩
          | _ => exact h.elim
      | _ => exact .inr ⟨fun _ z => (nomatch z), h⟩
    rcases key with ⟨m1, d1, rfl, rfl, hh⟩ | ⟨hn, h⟩
    · obtain ⟨ds', h1, h2, h3⟩ := finM_of (ms := ms) (ds := ds) hh
      refine ⟨d1 :: ds', h1, by simp [h2], fun k m d' e1 e2 e3 => ?_⟩
      cases k with
      | zero => simp at e1 e2; subst e1; subst e2; exact .inr ⟨_, rfl, rfl⟩
      | succ k => simpa using h3 k m d' (by simpa using e1) (by simpa using e2) e3
    · obtain ⟨ds', h1, h2, h3⟩ := finM_of (ms := ms) (ds := ds) h
      refine ⟨d0 :: ds', h1, by simp [h2], fun k m d' e1 e2 e3 => ?_⟩
      cases k with
      | zero =>
        simp at e1 e2
        subst e1; subst e2
        cases m0 with
        | F => exact .inl ⟨rfl, rfl⟩
        | P m1 => exact absurd rfl (hn m1)
        | _ => cases e3
      | succ k => simpa using h3 k m d' (by simpa using e1) (by simpa using e2) e3
  | .P _ :: _, [], [], _, h => h.elim
  | .P _ :: _, [], _ :: _, _, h => h.elim
  | .P _ :: _, _ :: _, [], _, h => h.elim
  | .F :: _, [], _, _, h => by simp [finM] at h
  | .L _ :: _, [], _, _, h => by simp [finM] at h
  | .K :: _, [], _, _, h => by simp [finM] at h
  | .N :: _, [], _, _, h => by simp [finM] at h
  | .M _ :: _, [], _, _, h => by simp [finM] at h
  | .O _ :: _, [], _, _, h => by simp [finM] at h
  | .T _ :: _, [], _, _, h => by simp [finM] at h
  | .A _ :: _, [], _, _, h => by simp [finM] at h
  | .F :: _, _ :: _, [], _, h => by simp [finM] at h
  | .L _ :: _, _ :: _, [], _, h => by simp [finM] at h
  | .K :: _, _ :: _, [], _, h => by simp [finM] at h
  | .N :: _, _ :: _, [], _, h => by simp [finM] at h
  | .M _ :: _, _ :: _, [], _, h => by simp [finM] at h
  | .O _ :: _, _ :: _, [], _, h => by simp [finM] at h
  | .T _ :: _, _ :: _, [], _, h => by simp [finM] at h
  | .A _ :: _, _ :: _, [], _, h => by simp [finM] at h
theorem par_okM {ms : List Md} {ds ds' : List D} {vs : List V} (hl : vs.length = ms.length) (hS : S.ok K) (hσ : ∀ (k : Nat) (v : V), vs[k]? = some v → S.σ[k]? = some (some v)) (hρ : ∀ (k : Nat) (m : Md) (d : D), ms[k]? = some m → ds[k]? = some d → S.ρ[k]? = some (some (m, d)))
    (hp : S.pin = fun i => vs[i]?) (hT : T.ok K) (t : S.to T) (h2 : ds'.length = ms.length)
    (h3 : ∀ (k : Nat) (m : Md) (d : D), ms[k]? = some m → ds'[k]? = some d → keepM m = true → (m = .F ∧ ds[k]? = some d) ∨ (∃ m1, m = .P m1 ∧ T.ρ[k]? = some (some (.P m1, d)))) :
    Sx K T.pin T.G T.H (vs.map some) (zrM ms ds') (parF ms T.f) where
  ext := hT.ext
  len := by rw [zrM_len h2, List.length_map, hl]
  slot := fun k m d e => by
    obtain ⟨e0, e1, e2⟩ := zrM_get.mp e
    have hk : k < vs.length := by
      have := (List.getElem?_eq_some_iff.mp e1).1
      omega
    have hv : vs[k]? = some vs[k] := List.getElem?_eq_getElem hk
    refine ⟨vs[k], by rw [List.getElem?_map, hv]; rfl, ?_⟩
    rcases h3 k m d e1 e2 e0 with ⟨rfl, q2⟩ | ⟨m1, rfl, q⟩
    · have : parF ms T.f k = [] := by unfold parF; rw [e1]
      rw [this]
      obtain ⟨v, hv', r⟩ := hS.slot k _ _ (hρ k _ _ e1 q2)
      rw [hσ k _ hv] at hv'; cases hv'
      exact .F (r.F_inv.1.mono t.stp.gext)
    · have : parF ms T.f k = T.f k := by unfold parF; rw [e1]
      rw [this]
      obtain ⟨v, hv', r⟩ := hT.slot k _ _ q
      obtain ⟨u, hu, hu'⟩ := hT.pins k _ _ q
      rw [t.pin, hp] at hu
      have hu2 : vs[k]? = some u := hu
      rw [hv] at hu2; cases hu2
      rw [hv'] at hu'; cases hu'
      exact r
  emp := fun k e => by
    unfold parF
    split
    · rename_i m1 e1
      have hk : k < ds'.length := by rw [h2]; exact (List.getElem?_eq_some_iff.mp e1).1
      exact absurd (zrM_get.mpr ⟨rfl, e1, List.getElem?_eq_getElem hk⟩) (e _ _)
    · rfl
  nd := fun k => by
    unfold parF
    split
    · exact hT.nd k
    · exact List.nodup_nil
  dj := fun i j a h h' => hT.dj i j a (parF_sub h) (parF_sub h')
  out := fun i a h => hT.out i a (parF_sub h)
  pins := fun k m d e => by
    obtain ⟨e0, e1, e2⟩ := zrM_get.mp e
    rcases h3 k _ d e1 e2 e0 with ⟨q, _⟩ | ⟨m1, q, q'⟩
    · cases q
    · cases q
      obtain ⟨u, hu, hu'⟩ := hT.pins k _ _ q'
      refine ⟨u, hu, ?_⟩
      rw [t.pin, hp] at hu
      have hu2 : vs[k]? = some u := hu
      rw [List.getElem?_map, hu2]; rfl
variable {P : Program} {w : World} {mg : Str → Option Value} {base : Heap}
theorem fn_okM {x qual : Str} {st : Stmt} {fa : Addr} {fd : FuncData} {N ps : List Str} {k : Nat} {ms : List Md} {Wf : DF} {w' : DS} (F : Fun K x qual st fa fd) (sc : FnScope N ps (defScope st)) (hm : ms.length = ps.length) (hN : ms.length ≤ N.length)
    (body : ∀ (cdv : Value) (A : Around) (outer : List Env) (s : Shared) (H : Hp) (E : XK), Room k (A.deeper (envOfC qual (defScope st) s.heap.objs.size fa cdv)) →
      PSs (cxOf (L2.CX P w) P w K mg base N qual (defScope st) fa cdv A outer s H E) (defBody st) (ts K (fun cls d _ H => E cls d H) w'))
    (hw : ∀ ds P, ds.length = ms.length → Wf ds P → w' (endsM ms ds P) (zr ms ds ++ List.replicate (N.length - ms.length) none)) :
    FnOk P w K mg base (L2.CX P w) (k + 1) fa fd ps (spM K ms Wf) := by
  refine F.okX sc (fun vs H Q E h => ?_) (fun cdv A outer s H vs Q E hr h => ⟨ts K (fun cls d _ H => E cls d H) w', body cdv A outer s H E hr, ?_⟩)
  · obtain ⟨S, ds, Pf, _, _, _, h, _⟩ := h
    rw [h, hm]
  · obtain ⟨S, ds, Pf, rfl, hσ, hp, hl, hd, hρ, ok, wf, k1, k2⟩ := h
    have sok := start_ok (N := N) hl hd hN ok hσ hρ
    have hσ' : ∀ (k : Nat) (v : V), vs[k]? = some v → (L2.start N vs)[k]? = some (some v) := fun k v e => by
      have e' : (vs.map some)[k]? = some (some v) := by rw [List.getElem?_map, e]; rfl
      unfold L2.start
      rw [List.getElem?_append_left (List.getElem?_eq_some_iff.mp e').1]; exact e'
    have hρ' : ∀ (k : Nat) (m : Md) (d : D), ms[k]? = some m → ds[k]? = some d → (zr ms ds ++ List.replicate (N.length - ms.length) none)[k]? = some (some (m, d)) := fun k m d e1 e2 => by
      have e := zr_get.mpr ⟨e1, e2⟩
      rw [List.getElem?_append_left (List.getElem?_eq_some_iff.mp e).1]; exact e
    have fin : ∀ {q : List D → Prop} (T : Sta), finM ms ds T.ρ q → T.ok K → (Sta.to { S with σ := L2.start N vs, ρ := zr ms ds ++ List.replicate (N.length - ms.length) none } T) → ∃ ds', q ds' ∧ ds'.length = ms.length ∧ Sta.ok K { T with σ := vs.map some, ρ := zrM ms ds', f := parF ms T.f } := fun {q} T hq okT t => by
      obtain ⟨ds', h1, h2, h3⟩ := finM_of hq
      exact ⟨ds', h1, h2, par_okM (S := { S with σ := L2.start N vs, ρ := zr ms ds ++ List.replicate (N.length - ms.length) none }) hl sok hσ' hρ' hp okT t h2 h3⟩
    refine ⟨{ S with σ := L2.start N vs, ρ := zr ms ds ++ List.replicate (N.length - ms.length) none }, endsM ms ds Pf, rfl, rfl, sok, hw ds Pf hd wf, ?_⟩
    refine ⟨fun T e okT t => ?_, fun T e _ _ => e.elim, fun T e _ _ => e.elim, fun x T e okT t v hv => ?_, fun C fl T e okT t dd hd' => ?_⟩
    · obtain ⟨ds', h1, h2, h3⟩ := fin T e okT t
      exact k1 _ ds' _ h1 h2 rfl rfl h3 (Sta.to.par (S := S) ⟨t.stp, t.pin⟩) rfl _ (Has.par (S := S) (T := T) (kd := .fz) rfl .non)
    · obtain ⟨ds', h1, h2, h3⟩ := fin T e.2 okT t
      exact k1 _ ds' _ h1 h2 rfl rfl h3 (Sta.to.par (S := S) ⟨t.stp, t.pin⟩) e.1 _ (Has.par (S := S) e.1 (by
        obtain ⟨kd, d⟩ := x
        cases kd with
        | fz => exact hv
        | bor i p m => cases e.1
        | new m => exact hv))
    · obtain ⟨ds', h1, h2, h3⟩ := fin T e okT t
      exact k2 C fl ds' _ h1 h2 rfl rfl h3 (Sta.to.par (S := S) ⟨t.stp, t.pin⟩) dd hd'
/-! the call -/
theorem RS.split : ∀ {ms : List Md} {vs : List V} {ds : List D} {fp : List Addr}, RS K G H ms vs ds fp → fp.Nodup → ∃ fA : Own, (∀ k m v d, ms[k]? = some m → vs[k]? = some v → ds[k]? = some d → R K G H m v d (fA k)) ∧ (∀ k a, a ∈ fA k → a ∈ fp) ∧ (∀ k, (fA k).Nodup) ∧ (∀ i j a, a ∈ fA i → a ∈ fA j → i = j) ∧ ∀ k, ms.length ≤ k → fA k = []
  | [], _, _, _, h, _ => by
    cases h
    exact ⟨fun _ => [], fun k m v d e => by simp at e, fun _ _ h => (nomatch h), fun _ => List.nodup_nil, fun _ _ _ h => (nomatch h), fun _ _ => rfl⟩
  | m0 :: ms, _, _, _, h, n => by
    cases h with
    | @cons _ _ v0 d0 vs ds fq fr r1 r2 =>
      have nn := List.nodup_append.mp n
      obtain ⟨fA, g1, g2, g3, g4, g5⟩ := RS.split r2 nn.2.1
      refine ⟨fun k => match k with | 0 => fq | k + 1 => fA k, fun k m v d e1 e2 e3 => ?_, fun k a ha => ?_, fun k => ?_, fun i j a hi hj => ?_, fun k hk => ?_⟩
      · cases k with
        | zero => simp at e1 e2 e3; subst e1; subst e2; subst e3; exact r1
        | succ k => exact g1 k m v d (by simpa using e1) (by simpa using e2) (by simpa using e3)
      · cases k with
        | zero => exact List.mem_append_left _ ha
        | succ k => exact List.mem_append_right _ (g2 k a ha)
      · cases k with
        | zero => exact nn.1
        | succ k => exact g3 k
      · cases i with
        | zero =>
          cases j with
          | zero => rfl
          | succ j => exact absurd rfl (nn.2.2 a hi a (g2 j a hj))
        | succ i =>
          cases j with
          | zero => exact absurd rfl (nn.2.2 a hj a (g2 i a hi))
          | succ j => rw [g4 i j a hi hj]
      · cases k with
        | zero => simp at hk
        | succ k => exact g5 k (by simpa using hk)
def mdsN (xs : List (Kd × D)) : List Md := xs.map fun x => mdN x.1
def notPs (xs : List (Kd × D)) : Bool := xs.all fun x => notP (mdN x.1)
def wCallN (ms : List Md) (Wf : DF) (wa : DE (List (Kd × D))) : DE (Kd × D) := fun ρ P => wa ρ ⟨fun p xs ρ1 => (mdsN xs = ms ∧ notPs xs = true) ∧ Wf (xs.map (·.2)) ⟨fun z _ => P.ok p z ρ1, fun C fl _ => P.ex C fl ρ1⟩, P.ex⟩
theorem te_callN {ms : List Md} {Wf : DF} {wa : DE (List (Kd × D))} {Q : VK} (h : te K W (wCallN ms Wf wa) σ H Q) : tCallSD (spM K ms Wf) [] (WE W) (tn K W wa) σ H Q := by
  obtain ⟨S, P, rfl, rfl, ok, w, k, ex⟩ := h
  refine ⟨S, _, rfl, rfl, ok, w, fun p xs T w1 e1 ok1 t1 pr1 vs h1 => ?_, ex⟩
  obtain ⟨⟨hms, hnp⟩, w1⟩ := w1
  obtain ⟨fp, h1⟩ := h1
  obtain ⟨n1, n2, n3⟩ := h1.all
  have hl := h1.len
  have rs : RS K T.G T.H ms vs (xs.map (·.2)) fp := hms ▸ h1.rs (Ex.refl _) fun _ _ _ h => h
  obtain ⟨fA, g1, g2, g3, g4, g5⟩ := rs.split n1
  rw [List.append_nil]
  have lm : ms.length = xs.length := by rw [← hms]; simp [mdsN]
  have ld : (xs.map (·.2)).length = ms.length := by rw [List.length_map, lm]
  have ns : ∀ a, a ∈ fp → ¬ Ow T.f a := fun a ha => (n2 a ha).2.1
  have sA : Sta.ok K ⟨fun i => vs[i]?, T.G, T.H, vs.map some, zr ms (xs.map (·.2)), fA⟩ := {
    ext := ok1.ext
    len := by rw [zr_len ld, List.length_map, hl, lm]
    slot := fun i m d e => by
      obtain ⟨e1, e2⟩ := zr_get.mp e
      have hi : i < vs.length := by rw [hl, ← lm]; exact (List.getElem?_eq_some_iff.mp e1).1
      have hv : vs[i]? = some vs[i] := List.getElem?_eq_getElem hi
      exact ⟨vs[i], by rw [List.getElem?_map, hv]; rfl, g1 i m _ d e1 hv e2⟩
    emp := fun i e => by
      by_cases c : ms.length ≤ i
      · exact g5 i c
      · have hi : i < ms.length := by omega
        exact absurd (zr_get.mpr ⟨List.getElem?_eq_getElem hi, List.getElem?_eq_getElem (by omega)⟩) (e _ _)
    nd := g3
    dj := g4
    out := fun i a h => (n2 a (g2 i a h)).1
    pins := fun i m d e => by
      obtain ⟨e1, e2⟩ := zr_get.mp e
      have hx : (mdsN xs)[i]? = some (.P m) := by rw [hms]; exact e1
      unfold mdsN at hx
      rw [List.getElem?_map] at hx
      cases q : xs[i]? with
      | none => rw [q] at hx; cases hx
      | some x =>
        rw [q] at hx
        have hx : mdN x.1 = .P m := by simpa using hx
        have := List.all_eq_true.mp hnp x (List.mem_of_getElem? q)
        rw [hx] at this
        cases this }
  have owA : ∀ a, Ow fA a → a ∈ fp := fun a ⟨i, h⟩ => g2 i a h
  have back : ∀ U : Sta, U.ok K → Sta.to ⟨fun i => vs[i]?, T.G, T.H, vs.map some, zr ms (xs.map (·.2)), fA⟩ U →
      Sta.ok K ⟨T.pin, U.G, U.H, T.σ, T.ρ, T.f⟩ ∧ S.to ⟨T.pin, U.G, U.H, T.σ, T.ρ, T.f⟩ ∧ Tch p S ⟨T.pin, U.G, U.H, T.σ, T.ρ, T.f⟩ := fun U okU tU => by
    have kp : ∀ a o, T.H a = some o → a ∉ fp → U.H a = some o := fun a o ha hn => tU.stp.keep a o ha fun z => hn (owA a z)
    have inT : ∀ a, Ow T.f a → a ∉ fp := fun a h z => ns a z h
    have gd : ∀ a, T.H a ≠ none → a ∉ fp → U.G a = T.G a := fun a ha hn => tU.stp.gold a ha fun z => hn (owA a z)
    have nS : ∀ a, S.H a ≠ none → ¬ Ow S.f a → a ∉ fp := fun a ha hn z => by
      rcases (n2 a z).2.2 with q | q
      · exact hn q
      · exact ha q
    refine ⟨{
      ext := okU.ext
      len := ok1.len
      slot := fun i m d e => by
        obtain ⟨v, q1, q2⟩ := ok1.slot i m d e
        exact ⟨v, q1, q2.keep tU.stp.gext fun a ha o ho => kp a o ho (inT a ⟨i, ha⟩)⟩
      emp := ok1.emp
      nd := ok1.nd
      dj := ok1.dj
      out := fun i a h => by
        show U.G a = none
        rw [gd a (ok1.own ⟨i, h⟩) (inT a ⟨i, h⟩)]
        exact ok1.out i a h
      pins := ok1.pins }, ⟨⟨t1.stp.gext.trans tU.stp.gext, fun a o ha hn => kp a o (t1.stp.keep a o ha hn) (nS a (by rw [ha]; exact fun z => nomatch z) hn), fun a ha hn => ?_, t1.stp.fnew, fun a ha => tU.stp.trk a (t1.stp.trk a ha)⟩, t1.pin⟩, fun i hi => ?_⟩
    · show U.G a = S.G a
      rw [gd a (t1.stp.trk a ha) (nS a ha hn), t1.stp.gold a ha hn]
    · obtain ⟨z1, z2, z3⟩ := pr1 i hi
      exact ⟨z1, z2, fun a ha o ho => kp a o (z3 a ha o ho) (inT a ⟨i, by rw [z2]; exact ha⟩)⟩
  refine ⟨⟨fun i => vs[i]?, T.G, T.H, vs.map some, zr ms (xs.map (·.2)), fA⟩, xs.map (·.2), _, rfl, rfl, rfl, by rw [hl, lm], ld, rfl, sA, w1, fun z ds' U e hd hσ hρ okU tU hk v hv => ?_, fun C fl ds' U e hd hσ hρ okU tU dd hdd => ?_⟩
  · obtain ⟨b1, b2, b3⟩ := back U okU tU
    refine k _ z ⟨T.pin, U.G, U.H, T.σ, T.ρ, T.f⟩ e e1 b1 b2 b3 v ?_
    obtain ⟨kd, d⟩ := z
    cases kd with
    | fz => exact hv
    | bor i p m => cases hk
    | new m =>
      obtain ⟨fq, r, n, kk⟩ := hv
      refine ⟨fq, r, n, fun a ha => ⟨(kk a ha).1, fun z => ?_, ?_⟩⟩
      · rcases (kk a ha).2.2 with q | q
        · exact ns a (owA a q) z
        · exact ok1.own z q
      · rcases (kk a ha).2.2 with q | q
        · exact (n2 a (owA a q)).2.2
        · by_cases c : Ow S.f a
          · exact .inl c
          · refine .inr ?_
            cases hh : S.H a with
            | none => rfl
            | some o =>
              have := t1.stp.keep a o hh c
              have q : T.H a = none := q
              rw [q] at this
              cases this
  · obtain ⟨b1, b2, b3⟩ := back U okU tU
    exact ex C fl ⟨T.pin, U.G, U.H, T.σ, T.ρ, T.f⟩ e e1 b1 b2 dd hdd
theorem q_callN {k : Nat} {fa : Addr} {fd : FuncData} {ps : List Str} {ms : List Md} {Wf : DF} {x : Str} {p pos : Pos} {e : Expr} {es : List Expr} {wa : DE (List (Kd × D))} (F : FnOk X.prog X.w X.K X.mg X.base (L2.CX X.prog X.w) k fa fd ps (spM X.K ms Wf)) (hr : Room k X.A) (hm : X.mg x = some (.ref fa)) (hk : PySem.W.keepIn X.K (.ref fa) = true) (hb : Binds X.K fd ps []) (tk : Takes X W)
    (ha : PA X (e :: es) (tn X.K W wa)) (hg : Gl X x := by rfl) (hdb : (x == ("__debug__" : Str)) = false := by decide) (he : starEach (e :: es) X.env = (false, eval e X.env) :: starEach es X.env := by rfl) (hpl : (backTo pos (starEach es X.env)).any (·.1) = false := by rfl) :
    PE X (.Call (.Name x p) (e :: es) [] pos) (te X.K W (wCallN ms Wf wa)) :=
  PE.imp (pe_callSD F hr hg hm hk hb .nil (fun σ => passAt tk σ) ha hdb he hpl) fun _ _ _ h => te_callN h
@[simp ↓] theorem wCallN_eq {ms : List Md} {Wf : DF} {wa : DE (List (Kd × D))} {P : Po (Kd × D)} : wCallN ms Wf wa ρ P = wa ρ ⟨fun p xs ρ1 => (mdsN xs = ms ∧ notPs xs = true) ∧ Wf (xs.map (·.2)) ⟨fun z _ => P.ok p z ρ1, fun C fl _ => P.ex C fl ρ1⟩, P.ex⟩ := rfl
@[simp] theorem mdsN_eq {xs : List (Kd × D)} : mdsN xs = xs.map fun x => mdN x.1 := rfl
@[simp] theorem notPs_eq {xs : List (Kd × D)} : notPs xs = xs.all fun x => notP (mdN x.1) := rfl
@[simp ↓] theorem endsM_nx {ms : List Md} {ds : List D} {F : Pf} {ρ : Rho} : (endsM ms ds F).nx ρ = finM ms ds ρ fun ds' => F.ok (.fz, .non) ds' := rfl
@[simp ↓] theorem endsM_rt {ms : List Md} {ds : List D} {F : Pf} {x : Kd × D} {ρ : Rho} : (endsM ms ds F).rt x ρ = (retK x.1 = true ∧ finM ms ds ρ fun ds' => F.ok x ds') := rfl
@[simp ↓] theorem endsM_ex {ms : List Md} {ds : List D} {F : Pf} {C : Addr} {fl : List (Str × D)} {ρ : Rho} : (endsM ms ds F).ex C fl ρ = finM ms ds ρ fun ds' => F.ex C fl ds' := rfl
@[simp ↓] theorem finM_n {ds : List D} {ρ : Rho} {q : List D → Prop} : finM [] ds ρ q = q [] := rfl
@[simp ↓] theorem finM_F {ms : List Md} {d : D} {ds : List D} {x : Option (Md × D)} {ρ : Rho} {q : List D → Prop} : finM (.F :: ms) (d :: ds) (x :: ρ) q = finM ms ds ρ fun r => q (d :: r) := rfl
@[simp ↓] theorem finM_T {ns ms : List Md} {d : D} {ds : List D} {x : Option (Md × D)} {ρ : Rho} {q : List D → Prop} : finM (.T ns :: ms) (d :: ds) (x :: ρ) q = finM ms ds ρ fun r => q (d :: r) := rfl
/-! a, b = s[0], s[1]; t = t + s[2]; s a tuple of one's own whose first thing goes to a -/
def partK (i a b t : Nat) (ρ : Rho) (q : Rho → Prop) : Prop := match ρ[i]? with
  | some (some (.T [m0, .F, .F], .tup [d0, d1, .int n])) => notP m0 = true ∧ okSlot (ρ.set i none) a = true ∧ okSlot ((ρ.set i none).set a (some (m0, d0))) b = true ∧
    okSlot (((ρ.set i none).set a (some (m0, d0))).set b (some (.F, d1))) t = true ∧ ∃ (md : Md) (k : Int), (((ρ.set i none).set a (some (m0, d0))).set b (some (.F, d1)))[t]? = some (some (md, .int k)) ∧ q ((((ρ.set i none).set a (some (m0, d0))).set b (some (.F, d1))).set t (some (.F, .int (k + n))))
  | _ => False
def wPart (i a b t : Nat) : DS := fun E ρ => partK i a b t ρ E.nx
theorem ts_part {i a b t : Nat} {w : DS} (hia : i ≠ a) (hib : i ≠ b) (h : ts K W (wSeq (wPart i a b t) w) Z σ H) :
    tSeq (tPar a b (tCons (tOp (rIx K) (tVar i) (tC (.int 0))) (tCons (tOp (rIx K) (tVar i) (tC (.int 1))) tNil))) (tSeq (tAsg (tOp (rI0 fun x y => .int (x + y)) (tVar t) (tOp (rIx K) (tVar i) (tC (.int 2)))) (gName t)) (ts K W w)) Z σ H := by
  obtain ⟨S, E, rfl, rfl, ok, w0, l⟩ := h
  have w0 : partK i a b t S.ρ (w E) := w0
  unfold partK at w0
  split at w0
  case h_2 => exact w0.elim
  rename_i m0 d0 d1 n e0
  obtain ⟨w1, w2, w3, w4, md, k, w5, w6⟩ := w0
  obtain ⟨v0, hv0, r0⟩ := ok.slot i _ _ e0
  have hn0 := ok.nd i
  have hout : ∀ x ∈ S.f i, S.G x = none := fun x hx => ok.out i x hx
  have hdj : ∀ j x, x ∈ S.f i → x ∈ S.f j → i = j := fun j x h h' => ok.dj i j x h h'
  generalize hfi : S.f i = fi at r0 hn0 hout hdj
  cases r0 with
  | @T _ ad xs _ _ hG rs =>
    cases rs with
    | @cons _ _ x0 _ _ _ f0 fr0 r0 rs =>
      cases rs with
      | @cons _ _ x1 _ _ _ f1 fr1 r1 rs =>
        cases rs with
        | @cons _ _ x2 _ _ _ f2 fr2 r2 rs =>
          cases rs
          obtain ⟨hd1, ef1⟩ := r1.F_inv
          obtain ⟨hd2, ef2⟩ := r2.F_inv
          cases hd2
          have hT : SqT K S.H ad [x0, x1, .int n] := .inl (.inl (ok.ext _ _ hG))
          have nn := (List.nodup_append.mp hn0).1
          have s0 := Sx.forget ok i
          have in0 : ∀ x, x ∈ f0 → x ∈ S.f i := fun x hx => by rw [hfi]; exact List.mem_append_left _ hx
          have now : ∀ x ∈ f0, ¬ Ow (S.f.set i []) x := fun x hx ⟨j, hj⟩ => by
            by_cases c : j = i
            · subst c; rw [Own.set_same] at hj; cases hj
            · rw [Own.set_ne c] at hj
              exact c (ok.dj j i x hj (in0 x hx))
          have s1 := Sx.put s0 w2 w1 r0 nn fun x hx => ⟨ok.out i x (in0 x hx), fun z => absurd z (now x hx)⟩
          have s2 := Sx.put s1 w3 rfl (.F hd1) List.nodup_nil fun _ h => nomatch h
          have s3 := Sx.put s2 w4 rfl (.F (.int (k + n))) List.nodup_nil fun _ h => nomatch h
          obtain ⟨vt, hvt, rt⟩ := s2.slot t md _ w5
          have evt : vt = .int k := by
            have := R.dt (G' := Gadd S.G S.H (fun x => S.H x ≠ none)) (Ex.refl _ |>.trans (fun x o h => by rw [Gadd.in (show S.H x ≠ none by rw [ok.ext x o h]; exact fun z => nomatch z)]; exact ok.ext x o h)) rt (fun x _ o ho => by rw [Gadd.in (show S.H x ≠ none by rw [ho]; exact fun z => nomatch z)]; exact ho)
            cases this; rfl
          subst evt
          have e2 : ((S.σ.set a (some x0)).set b (some x1))[i]? = some (some (.ref ad)) := by
            rw [List.getElem?_set_ne (Ne.symm hib), List.getElem?_set_ne (Ne.symm hia)]
            exact hv0
          refine ⟨_, hv0, .inr (.inl ⟨ad, _, 0, x0, rfl, rfl, hT, rfl, ?_⟩)⟩
          refine ⟨_, hv0, .inr (.inl ⟨ad, _, 1, x1, rfl, rfl, hT, rfl, ?_⟩)⟩
          refine ⟨x0, x1, rfl, ?_⟩
          refine ⟨_, hvt, _, e2, .inr (.inl ⟨ad, _, 2, .int n, rfl, rfl, hT, rfl, ?_⟩)⟩
          refine ⟨k, n, rfl, rfl, ?_⟩
          refine ⟨⟨S.pin, S.G, S.H, (((S.σ.set a (some x0)).set b (some x1)).set t (some (.int (k + n)))), _, ((((S.f.set i []).set a f0).set b []).set t [])⟩, E, rfl, rfl, s3, w6, ?_⟩
          refine l.to ⟨⟨Ex.refl _, fun x o h _ => h, fun _ _ _ => rfl, fun x ⟨j, hj⟩ => .inl ?_, fun _ h => h⟩, rfl⟩
          have hj : x ∈ ((((S.f.set i []).set a f0).set b []).set t []) j := hj
          have c1 : x ∈ ((S.f.set i []).set a f0) j := by
            by_cases c : j = t
            · rw [c, Own.set_same] at hj; cases hj
            · rw [Own.set_ne c] at hj
              by_cases c2 : j = b
              · rw [c2, Own.set_same] at hj; cases hj
              · rw [Own.set_ne c2] at hj
                exact hj
          by_cases c : j = a
          · rw [c, Own.set_same] at c1
            exact ⟨i, in0 x c1⟩
          · rw [Own.set_ne c] at c1
            by_cases c2 : j = i
            · rw [c2, Own.set_same] at c1; cases c1
            · rw [Own.set_ne c2] at c1
              exact ⟨j, c1⟩
theorem q_part {i a b t : Nat} {w : DS} {s1 s2 : Stmt} {rest : List Stmt} (h1 : PS X s1 (tPar a b (tCons (tOp (rIx X.K) (tVar i) (tC (.int 0))) (tCons (tOp (rIx X.K) (tVar i) (tC (.int 1))) tNil)))) (h2 : PS X s2 (tAsg (tOp (rI0 fun x y => .int (x + y)) (tVar t) (tOp (rIx X.K) (tVar i) (tC (.int 2)))) (gName t)))
    (h : PSs X rest (ts X.K W w)) (hia : i ≠ a := by decide) (hib : i ≠ b := by decide) : PSs X (s1 :: s2 :: rest) (ts X.K W (wSeq (wPart i a b t) w)) :=
  PSs.imp (pss_cons h1 (pss_cons h2 h)) fun _ _ _ h => ts_part hia hib h
theorem partK_T {i a b t : Nat} {m0 : Md} {d0 d1 : D} {n : Int} {q : Rho → Prop} (h : ρ[i]? = some (some (.T [m0, .F, .F], .tup [d0, d1, .int n]))) : partK i a b t ρ q = (notP m0 = true ∧ okSlot (ρ.set i none) a = true ∧ okSlot ((ρ.set i none).set a (some (m0, d0))) b = true ∧ okSlot (((ρ.set i none).set a (some (m0, d0))).set b (some (.F, d1))) t = true ∧ ∃ (md : Md) (k : Int), (((ρ.set i none).set a (some (m0, d0))).set b (some (.F, d1)))[t]? = some (some (md, .int k)) ∧ q ((((ρ.set i none).set a (some (m0, d0))).set b (some (.F, d1))).set t (some (.F, .int (k + n))))) := by
  unfold partK
  rw [h]
@[simp ↓] theorem wPart_eq {i a b t : Nat} : wPart i a b t E ρ = partK i a b t ρ E.nx := rfl
end
end VL

/-! dicts of one's own lent as frozen while an expression runs whose answer holds no dict -/
namespace VL
open PySem PySem.Spec PyProof.Rows L2 RT RZ
section
variable {K : PySem.W.Frag} {W : WX} {G G' H H' : Hp} {σ : L2.St} {X : Cx} {ρ : Rho} {S T : Sta}
def isDic : HO → Bool
  | .dK _ => true
  | .dT _ => true
  | .ext _ => true
  | _ => false
/-- no dict within -/
def noD : Nat → D → Bool
  | _, .non => true
  | _, .bl _ => true
  | _, .int _ => true
  | _, .str _ => true
  | n + 1, .lst xs => xs.all (noD n)
  | n + 1, .tup xs => xs.all (noD n)
  | n + 1, .obj _ fs => fs.all fun x => noD n x.2
  | _, _ => false
/-- .. within what is frozen of a thing held so -/
def noDM : Nat → Md → D → Bool
  | n, .F, d => noD n d
  | n + 1, .L m, .lst ds => ds.all (noDM n m)
  | n + 1, .O ms, .obj _ fs => decide (ms.length = fs.length) && (ms.zip fs).all fun x => noDM n x.1 x.2.2
  | n + 1, .T ms, .tup ds => decide (ms.length = ds.length) && (ms.zip ds).all fun x => noDM n x.1 x.2
  | _, _, _ => false
abbrev KeepD (G G' : Hp) : Prop := ∀ a o, G a = some o → isDic o = false → G' a = some o
theorem KeepD.t (k : KeepD G G') {a : Addr} {xs : List V} (h : SqT K G a xs) : SqT K G' a xs := by
  rcases h with (h | ⟨o, h⟩) | h
  · exact .inl (.inl (k a _ h rfl))
  · exact .inl (.inr ⟨o, k a _ h rfl⟩)
  · exact .inr h
theorem Dt.noD (k : KeepD G G') : ∀ {n : Nat} {v : V} {d : D}, noD n d = true → Dt K G v d → Dt K G' v d
  | 0, v, d, h, x => by
    cases x with
    | non => exact .non
    | bl b => exact .bl b
    | int i => exact .int i
    | str i => exact .str i
    | lst _ _ => simp [VL.noD] at h
    | scr _ => simp [VL.noD] at h
    | tup _ _ => simp [VL.noD] at h
    | dct _ _ => simp [VL.noD] at h
    | exc _ => simp [VL.noD] at h
    | ndc _ _ => simp [VL.noD] at h
    | obj _ _ _ => simp [VL.noD] at h
  | n + 1, v, d, h, x => by
    cases x with
    | non => exact .non
    | bl b => exact .bl b
    | int i => exact .int i
    | str i => exact .str i
    | scr _ => simp [VL.noD] at h
    | exc _ => simp [VL.noD] at h
    | ndc _ _ => simp [VL.noD] at h
    | dct _ _ => simp [VL.noD] at h
    | tup h1 h2 =>
      rename_i a xs ds
      refine .tup (k.t h1) ?_
      have h' : ds.all (VL.noD n) = true := by simpa only [VL.noD] using h
      clear h1 h
      have h := h'
      clear h'
      induction ds generalizing xs with
      | nil => cases h2; exact .nil
      | cons d ds ih =>
        cases h2 with
        | cons q t =>
          simp only [List.all_cons, Bool.and_eq_true] at h
          exact .cons (Dt.noD k h.1 q) (ih t h.2)
    | lst h1 h2 =>
      rename_i a xs ds
      refine .lst (k _ _ h1 rfl) ?_
      have h' : ds.all (VL.noD n) = true := by simpa only [VL.noD] using h
      clear h1 h
      have h := h'
      clear h'
      induction ds generalizing xs with
      | nil => cases h2; exact .nil
      | cons d ds ih =>
        cases h2 with
        | cons q t =>
          simp only [List.all_cons, Bool.and_eq_true] at h
          exact .cons (Dt.noD k h.1 q) (ih t h.2)
    | obj h1 hn h2 =>
      rename_i a C dx fs ds
      refine .obj (k a _ h1 rfl) hn ?_
      have h' : (ds.all fun x => VL.noD n x.2) = true := by simpa only [VL.noD] using h
      clear h1 hn h
      have h := h'
      clear h'
      induction ds generalizing fs with
      | nil => cases h2; exact .nil
      | cons d ds ih =>
        cases h2 with
        | cons q t =>
          simp only [List.all_cons, Bool.and_eq_true] at h
          exact .cons (Dt.noD k h.1 q) (ih t h.2)
theorem R.noD (k : KeepD G G') : ∀ {n : Nat} {m : Md} {v : V} {d : D} {fp : List Addr}, noDM n m d = true → R K G H m v d fp → R K G' H m v d fp
  | 0, m, v, d, fp, h, x => by
    cases x with
    | F q => exact .F (q.noD k (n := 0) (by simpa only [noDM] using h))
    | L _ _ => simp [noDM] at h
    | K _ _ => simp [noDM] at h
    | N _ _ => simp [noDM] at h
    | M _ _ => simp [noDM] at h
    | O _ _ _ => simp [noDM] at h
    | P _ => simp [noDM] at h
    | T _ _ => simp [noDM] at h
    | A _ _ => simp [noDM] at h
  | n + 1, m, v, d, fp, h, x => by
    cases x with
    | F q => exact .F (q.noD k (n := n + 1) (by simpa only [noDM] using h))
    | L h1 h2 =>
      rename_i m a xs ds fp
      refine .L h1 ?_
      have h' : ds.all (noDM n m) = true := by simpa only [noDM] using h
      clear h1 h
      have h := h'
      clear h'
      induction ds generalizing xs fp with
      | nil => cases h2; exact .nil
      | cons d ds ih =>
        cases h2 with
        | cons q t =>
          simp only [List.all_cons, Bool.and_eq_true] at h
          exact .cons (R.noD k h.1 q) (ih t h.2)
    | N _ _ => simp [noDM] at h
    | M _ _ => simp [noDM] at h
    | K _ _ => simp [noDM] at h
    | O h1 hn h2 =>
      rename_i ms a C dx fs ds fp
      refine .O h1 hn ?_
      have h' : ((ms.zip ds).all fun x => noDM n x.1 x.2.2) = true := by
        simp only [noDM, Bool.and_eq_true] at h
        exact h.2
      clear h1 hn h
      have h := h'
      clear h'
      induction ds generalizing fs fp ms with
      | nil => cases h2; exact .nil
      | cons d ds ih =>
        cases h2 with
        | cons q t =>
          simp only [List.zip_cons_cons, List.all_cons, Bool.and_eq_true] at h
          exact .cons (R.noD k h.1 q) (ih t h.2)
    | P _ => simp [noDM] at h
    | A _ _ => simp [noDM] at h
    | T h1 h2 =>
      rename_i ms a xs ds
      refine .T (k _ _ h1 rfl) ?_
      have h' : ((ms.zip ds).all fun x => noDM n x.1 x.2) = true := by
        simp only [noDM, Bool.and_eq_true] at h
        exact h.2
      clear h1 h
      have h := h'
      clear h'
      induction ds generalizing xs fp ms with
      | nil => cases h2; exact .nil
      | cons d ds ih =>
        cases h2 with
        | cons q t =>
          simp only [List.zip_cons_cons, List.all_cons, Bool.and_eq_true] at h
          exact .cons (R.noD k h.1 q) (ih _ t h.2)
mutual
def isDm : Md → Bool
  | .F => true
  | .K => true
  | .N => true
  | .M m => isDm m
  | .P m => isDm m
  | .T ms => isDms ms
  | _ => false
def isDms : List Md → Bool
  | [] => true
  | m :: ms => isDm m && isDms ms
end
mutual
theorem R.dicts : ∀ {m : Md} {v : V} {d : D} {fp : List Addr}, isDm m = true → R K G H m v d fp → ∀ a ∈ fp, ∃ o, H a = some o ∧ isDic o = true
  | _, _, _, _, _, .F _, _, h => nomatch h
  | _, _, _, _, e, .K h t, a, ha => by
    rcases List.mem_cons.mp ha with rfl | ha
    · exact ⟨_, h, rfl⟩
    · exact nomatch ha
  | _, _, _, _, e, .N h t, a, ha => by
    rcases List.mem_cons.mp ha with rfl | ha
    · exact ⟨_, h, rfl⟩
    · exact nomatch ha
  | _, _, _, _, e, .M h t, a, ha => by
    rcases List.mem_cons.mp ha with rfl | ha
    · exact ⟨_, h, rfl⟩
    · exact RK.dicts (by simpa only [isDm] using e) t a ha
  | _, _, _, _, e, .T h t, a, ha => RS.dicts (by simpa only [isDm] using e) t a ha
  | _, _, _, _, e, .P h, a, ha => R.dicts (by simpa only [isDm] using e) h a ha
  | _, _, _, _, e, .L _ _, a, ha => by simp [isDm] at e
  | _, _, _, _, e, .A _ _, a, ha => by simp [isDm] at e
  | _, _, _, _, e, .O _ _ _, a, ha => by simp [isDm] at e
theorem RK.dicts : ∀ {m : Md} {v : List (Key × V)} {d : List (Key × D)} {fp : List Addr}, isDm m = true → RK K G H m v d fp → ∀ a ∈ fp, ∃ o, H a = some o ∧ isDic o = true
  | _, _, _, _, _, .nil, _, h => nomatch h
  | _, _, _, _, e, .cons h t, a, ha => (List.mem_append.mp ha).elim (R.dicts e h a) (RK.dicts e t a)
theorem RS.dicts : ∀ {m : List Md} {v : List V} {d : List D} {fp : List Addr}, isDms m = true → RS K G H m v d fp → ∀ a ∈ fp, ∃ o, H a = some o ∧ isDic o = true
  | _, _, _, _, _, .nil, _, h => nomatch h
  | _, _, _, _, e, .cons h t, a, ha => by
    simp only [isDms, Bool.and_eq_true] at e
    exact (List.mem_append.mp ha).elim (R.dicts e.1 h a) (RS.dicts e.2 t a)
end
def noDK (x : Kd × D) : Bool := match x.1 with
  | .fz => noD 40 x.2
  | .new m => noDM 40 m x.2
  | .bor _ _ _ => false
def lendDK (ρ : Rho) (i : Nat) (q : Md → D → Prop) : Prop := match ρ[i]? with
  | some (some (m, d)) => isDm m = true ∧ q m d
  | _ => False
def wLendD (i : Nat) (we : DE (Kd × D)) : DE (Kd × D) := fun ρ P => lendDK ρ i fun _ d => we (ρ.set i (some (.F, d))) ⟨fun p x ρ' => (p = [] ∧ noDK x = true ∧ ρ' = ρ.set i (some (.F, d))) ∧ P.ok [] x ρ, fun _ _ _ => False⟩
theorem te_lendD {i : Nat} {we : DE (Kd × D)} {Q : VK} (h : te K W (wLendD i we) σ H Q) : te K W we σ H Q := by
  obtain ⟨S, P, rfl, rfl, ok, w, k, ex⟩ := h
  unfold wLendD lendDK at w
  split at w
  case h_2 => exact w.elim
  rename_i m d e
  obtain ⟨hm, w⟩ := w
  obtain ⟨v0, hv0, r0⟩ := ok.slot i m d e
  have fl := R.dicts hm r0
  have fo := ok.out i
  have g1 : Ex S.G (Gadd S.G S.H (· ∈ S.f i)) := Gadd.ext fo
  have dj : ∀ j, j ≠ i → ∀ a, a ∈ S.f j → a ∉ S.f i := fun j hj a h1 h2 => hj (ok.dj j i a h1 h2)
  have d1 : Dt K (Gadd S.G S.H (· ∈ S.f i)) v0 d := r0.dt g1 fun a ha o ho => by rw [Gadd.in ha]; exact ho
  have hi : i < S.ρ.length := (List.getElem?_eq_some_iff.mp e).1
  have rs : ∀ j, j ≠ i → (S.ρ.set i (some (Md.F, d)))[j]? = S.ρ[j]? := fun j hj => List.getElem?_set_ne (Ne.symm hj)
  have ri : (S.ρ.set i (some (Md.F, d)))[i]? = some (some (.F, d)) := List.getElem?_set_self hi
  have ok1 : Sta.ok K ⟨S.pin, Gadd S.G S.H (· ∈ S.f i), S.H, S.σ, S.ρ.set i (some (.F, d)), S.f.set i []⟩ := {
    ext := Gadd.sub ok.ext
    len := by rw [List.length_set]; exact ok.len
    slot := fun j mj dj' ej => by
      by_cases c : j = i
      · subst c
        have ej : (S.ρ.set j (some (Md.F, d)))[j]? = some (some (mj, dj')) := ej
        rw [ri] at ej
        cases ej
        refine ⟨v0, hv0, ?_⟩
        show R K _ _ .F v0 d (S.f.set j [] j)
        rw [Own.set_same]
        exact .F d1
      · have ej : (S.ρ.set i (some (Md.F, d)))[j]? = some (some (mj, dj')) := ej
        rw [rs j c] at ej
        obtain ⟨v, h1, h2⟩ := ok.slot j mj dj' ej
        refine ⟨v, h1, ?_⟩
        show R K _ _ mj v dj' (S.f.set i [] j)
        rw [Own.set_ne c]
        exact h2.keep g1 fun _ _ _ h => h
    emp := fun j h => by
      by_cases c : j = i
      · subst c; exact Own.set_same
      · show S.f.set i [] j = []
        rw [Own.set_ne c]
        exact ok.emp j fun m' d' => by
          have := h m' d'
          have this : ¬ (S.ρ.set i (some (Md.F, d)))[j]? = some (some (m', d')) := this
          rwa [rs j c] at this
    nd := fun j => by
      by_cases c : j = i
      · subst c
        show (S.f.set j [] j).Nodup
        rw [Own.set_same]
        exact List.nodup_nil
      · show (S.f.set i [] j).Nodup
        rw [Own.set_ne c]
        exact ok.nd j
    dj := fun j l a h1 h2 => by
      have h1 : a ∈ S.f.set i [] j := h1
      have h2 : a ∈ S.f.set i [] l := h2
      by_cases c : j = i
      · subst c; rw [Own.set_same] at h1; exact nomatch h1
      · by_cases c2 : l = i
        · subst c2; rw [Own.set_same] at h2; exact nomatch h2
        · rw [Own.set_ne c] at h1
          rw [Own.set_ne c2] at h2
          exact ok.dj j l a h1 h2
    out := fun j a h => by
      have h : a ∈ S.f.set i [] j := h
      by_cases c : j = i
      · subst c; rw [Own.set_same] at h; exact nomatch h
      · rw [Own.set_ne c] at h
        show Gadd S.G S.H (· ∈ S.f i) a = none
        rw [Gadd.out (dj j c a h)]
        exact ok.out j a h
    pins := fun j m' d' h => by
      have h : (S.ρ.set i (some (Md.F, d)))[j]? = some (some (.P m', d')) := h
      by_cases c : j = i
      · subst c; rw [ri] at h; cases h
      · rw [rs j c] at h
        exact ok.pins j m' d' h }
  refine ⟨⟨S.pin, Gadd S.G S.H (· ∈ S.f i), S.H, S.σ, S.ρ.set i (some (.F, d)), S.f.set i []⟩, _, rfl, rfl, ok1, w, fun p x T hx es okT t tc v hv => ?_, fun C fl T hx => hx.elim⟩
  obtain ⟨⟨rfl, hn, hρ⟩, hP⟩ := hx
  have own1 : ∀ a, Ow (S.f.set i []) a → Ow S.f a := fun a ⟨j, hj⟩ => by
    by_cases c : j = i
    · subst c; rw [Own.set_same] at hj; exact nomatch hj
    · rw [Own.set_ne c] at hj; exact ⟨j, hj⟩
  have tG : ∀ a ∈ S.f i, ∃ xs, S.H a = some xs ∧ T.G a = some xs ∧ isDic xs = true := fun a ha => by
    obtain ⟨xs, h1, hd⟩ := fl a ha
    refine ⟨xs, h1, t.stp.gext a _ ?_, hd⟩
    show Gadd S.G S.H (· ∈ S.f i) a = _
    rw [Gadd.in ha]
    exact h1
  have tH : ∀ a ∈ S.f i, ∀ o, S.H a = some o → T.H a = some o := fun a ha o ho => by
    obtain ⟨xs, h1, h2, _⟩ := tG a ha
    rw [h1] at ho
    cases ho
    exact okT.ext a _ h2
  have kp : KeepD T.G (Gadd T.G (fun _ => none) (· ∈ S.f i)) := fun a o ho hl => by
    by_cases c : a ∈ S.f i
    · obtain ⟨xs, _, h2, h3⟩ := tG a c
      rw [h2] at ho
      cases ho
      rw [h3] at hl
      cases hl
    · rw [Gadd.out c]; exact ho
  have sub : ∀ a o, Gadd T.G (fun _ => none) (· ∈ S.f i) a = some o → T.G a = some o := fun a o ho => by
    by_cases c : a ∈ S.f i
    · rw [Gadd.in c] at ho; cases ho
    · rw [Gadd.out c] at ho; exact ho
  have subn : ∀ a, T.G a = none → Gadd T.G (fun _ => none) (· ∈ S.f i) a = none := fun a ha => by
    by_cases c : a ∈ S.f i
    · rw [Gadd.in c]
    · rw [Gadd.out c]; exact ha
  have gs : Ex S.G (Gadd T.G (fun _ => none) (· ∈ S.f i)) := fun a o ho => by
    have c : a ∉ S.f i := fun c => by rw [fo a c] at ho; cases ho
    rw [Gadd.out c]
    exact t.stp.gext a o (g1 a o ho)
  have tf : ∀ j, j ≠ i → T.f j = S.f j ∧ ∀ a ∈ S.f j, ∀ o, S.H a = some o → T.H a = some o := fun j c => by
    obtain ⟨_, h2, h3⟩ := tc j (by simp)
    have h2 : T.f j = S.f.set i [] j := h2
    have h3 : ∀ a ∈ S.f.set i [] j, ∀ o, S.H a = some o → T.H a = some o := h3
    rw [Own.set_ne c] at h2 h3
    exact ⟨h2, h3⟩
  have tfi : T.f i = [] := by
    obtain ⟨_, h2, _⟩ := tc i (by simp)
    have h2 : T.f i = S.f.set i [] i := h2
    rwa [Own.set_same] at h2
  have fe : ∀ j, (T.f.set i (S.f i)) j = S.f j := fun j => by
    by_cases c : j = i
    · subst c; exact Own.set_same
    · rw [Own.set_ne c]; exact (tf j c).1
  have ok2 : Sta.ok K ⟨S.pin, Gadd T.G (fun _ => none) (· ∈ S.f i), T.H, S.σ, S.ρ, S.f⟩ := {
    ext := fun a o ho => okT.ext a o (sub a o ho)
    len := ok.len
    slot := fun j mj dj' ej => by
      obtain ⟨v, h1, h2⟩ := ok.slot j mj dj' ej
      refine ⟨v, h1, h2.keep gs fun a ha o ho => ?_⟩
      by_cases c : j = i
      · subst c; exact tH a ha o ho
      · exact (tf j c).2 a ha o ho
    emp := ok.emp
    nd := ok.nd
    dj := ok.dj
    out := fun j a h => by
      by_cases c : a ∈ S.f i
      · show Gadd T.G (fun _ => none) (· ∈ S.f i) a = none
        rw [Gadd.in c]
      · refine subn a ?_
        have cj : j ≠ i := fun z => c (z ▸ h)
        exact okT.out j a (by rw [(tf j cj).1]; exact h)
    pins := ok.pins }
  have to2 : Sta.to S ⟨S.pin, Gadd T.G (fun _ => none) (· ∈ S.f i), T.H, S.σ, S.ρ, S.f⟩ := ⟨⟨gs, fun a o ho hf => t.stp.keep a o ho fun z => hf (own1 a z), fun a ha hf => by
    have c : a ∉ S.f i := fun c => hf ⟨i, c⟩
    show Gadd T.G (fun _ => none) (· ∈ S.f i) a = S.G a
    rw [Gadd.out c, t.stp.gold a ha fun z => hf (own1 a z)]
    show Gadd S.G S.H (· ∈ S.f i) a = S.G a
    rw [Gadd.out c], fun a h => .inl h, fun a ha => t.stp.trk a ha⟩, rfl⟩
  have tc2 : Tch [] S ⟨S.pin, Gadd T.G (fun _ => none) (· ∈ S.f i), T.H, S.σ, S.ρ, S.f⟩ := fun j _ => ⟨rfl, rfl, fun a ha o ho => by
    by_cases c : j = i
    · subst c; exact tH a ha o ho
    · exact (tf j c).2 a ha o ho⟩
  refine k [] x ⟨S.pin, Gadd T.G (fun _ => none) (· ∈ S.f i), T.H, S.σ, S.ρ, S.f⟩ hP rfl ok2 to2 tc2 v ?_
  obtain ⟨kd, dd⟩ := x
  cases kd with
  | fz => exact Dt.noD kp (n := 40) hn hv
  | bor j p m' => cases hn
  | new m' =>
    obtain ⟨fp, h1, h2, h3⟩ := hv
    refine ⟨fp, R.noD kp (n := 40) hn h1, h2, fun a ha => ?_⟩
    obtain ⟨q1, q2, q3⟩ := h3 a ha
    have ca : a ∉ S.f i := fun c => by
      obtain ⟨xs, _, z, _⟩ := tG a c
      have q1 : T.G a = none := q1
      rw [z] at q1
      cases q1
    refine ⟨subn a q1, fun ⟨j, hj⟩ => ?_, ?_⟩
    · have hj : a ∈ S.f j := hj
      have cj : j ≠ i := fun z => ca (z ▸ hj)
      exact q2 ⟨j, by rw [(tf j cj).1]; exact hj⟩
    · rcases q3 with z | z
      · exact .inl (own1 a z)
      · exact .inr z
theorem q_lendD (i : Nat) {e : Expr} {we : DE (Kd × D)} (he : PE X e (te X.K W we)) : PE X e (te X.K W (wLendD i we)) := PE.imp he fun _ _ _ h => te_lendD h
@[simp ↓] theorem wLendD_eq {i : Nat} {we : DE (Kd × D)} {P : Po (Kd × D)} : wLendD i we ρ P = lendDK ρ i fun _ d => we (ρ.set i (some (.F, d))) ⟨fun p x ρ' => (p = [] ∧ noDK x = true ∧ ρ' = ρ.set i (some (.F, d))) ∧ P.ok [] x ρ, fun _ _ _ => False⟩ := rfl
@[simp ↓] theorem lendDK_0 {m : Md} {d : D} {q : Md → D → Prop} : lendDK (some (m, d) :: ρ) 0 q = (isDm m = true ∧ q m d) := rfl
@[simp ↓] theorem lendDK_s {x : Option (Md × D)} {i : Nat} {q : Md → D → Prop} : lendDK (x :: ρ) (i + 1) q = lendDK ρ i q := by simp [lendDK]
@[simp ↓] theorem noDK_f {d : D} : noDK (.fz, d) = noD 40 d := rfl
@[simp ↓] theorem noDK_n {m : Md} {d : D} : noDK (.new m, d) = noDM 40 m d := rfl
end
end VL

namespace My
open PySem PySem.Spec PyProof.Rows L2 VL
theorem lc_filq {α : Type} {xs : List α} {f G : α → D} {c : α → Bool} {g : DG} {tst : DE Bool} {we : DE (Kd × D)} {vs q : List Nat} {ρ : Rho} {Z : List D → Rho → Prop} (hz : Z ((xs.filter c).map G) ρ)
    (h : ∀ x ∈ xs, ∀ acc : List D, acc.length < xs.length → lcTurn g tst we vs q (f x) acc ρ fun acc' ρ' => acc' = (if c x = true then acc ++ [G x] else acc) ∧ ρ' = ρ) : lcK (xs.map f) g tst we vs q ρ Z := by
  refine ⟨fun i acc r => acc = ((xs.take i).filter c).map G ∧ r = ρ, ⟨by simp, rfl⟩, fun i d acc r hd hi => ?_, fun acc r hr => ?_⟩
  · obtain ⟨rfl, rfl⟩ := hi
    rw [List.getElem?_map] at hd
    cases ex : xs[i]? with
    | none => rw [ex] at hd; cases hd
    | some x =>
      rw [ex] at hd
      cases hd
      have hlt := (List.getElem?_eq_some_iff.mp ex).1
      have e : ((xs.take (i + 1)).filter c).map G = if c x = true then ((xs.take i).filter c).map G ++ [G x] else ((xs.take i).filter c).map G := by
        rw [List.take_add_one, ex]
        by_cases cx : c x = true
        · simp [cx]
        · simp [cx]
      have z := h x (List.mem_of_getElem? ex) (((xs.take i).filter c).map G) (by
        rw [List.length_map]
        have := List.length_filter_le c (xs.take i)
        rw [List.length_take] at this
        omega)
      rw [← e] at z
      exact z
  · obtain ⟨rfl, rfl⟩ := hr
    rw [List.length_map, List.take_length]
    exact hz

def StartN (y : Cf) (st sg N : Nat) : Prop := CfOk y st sg ∧ CelOk sg y.c ∧ y.c.length ≤ N
/-! the run keeps its cells unlike blanks -/
theorem cPut_nz {sg : Nat} {c : Cells} {p w : Int} (h : CelOk sg c) (hw : 0 < w ∧ w < sg) : CelOk sg (cPut c p w) := ⟨cPut_nd h.n, cPut_ok (P := fun v => 0 < v ∧ v < sg) h.v hw⟩
theorem step_cel {t : Tab} {st sg : Nat} {x y : Cf} (ht : TabOk t st sg) (hx : CfOk x st sg) (h : CelOk sg x.c) (e : stepC t x = some y) : CelOk sg y.c := by
  have he := ent_ok ht hx.q0 hx.q1 (cAt_ok (p := x.p) hx.c0 ht.sg0).1 (cAt_ok (p := x.p) hx.c0 ht.sg0).2
  unfold stepC at e
  split at e
  · cases e
  · rename_i w r s hent
    rw [hent] at he
    cases e
    by_cases cw : w = 0
    · simp only [if_pos cw]
      exact ⟨cDrop_nd h.n, fun y hy => h.v y (List.mem_filter.mp hy).1⟩
    · simp only [if_neg cw]
      have := he.1
      exact cPut_nz h ⟨by omega, by omega⟩
theorem run_cel {t : Tab} {st sg : Nat} (ht : TabOk t st sg) : ∀ {n : Nat} {x : Cf}, CfOk x st sg → CelOk sg x.c → CelOk sg (runC t n x).2.c
  | 0, x, _, h => h
  | n + 1, x, hx, h => by
    cases e : stepC t x with
    | none => rw [runC_n e]; exact h
    | some y =>
      rw [runC_s e]
      exact run_cel ht (step_ok ht hx e).1 (step_cel ht hx h e)
/-- seen rows are told rows -/
theorem seen_is {st sg : Nat} {z : Rb} {y : Cf} (hz : RbOk z st sg) (h : Rep z y) (hc : CelOk sg y.c) : seenR y = z := by
  obtain ⟨r1, r2, r3⟩ := seen_rep hc
  have el : (seenR y).l = z.l := row_ext r2 hz.l fun i => by rw [← r1.l, ← h.l, ← r1.p, ← h.p]
  have er : (seenR y).r = z.r := row_ext r3 hz.r fun i => by rw [← r1.r, ← h.r, ← r1.p, ← h.p]
  have eq : (seenR y).q = z.q := by rw [← r1.q, ← h.q]
  have em : (seenR y).m = z.m := by rw [← r1.p, ← h.p]
  cases z
  cases hs : seenR y
  rw [hs] at el er eq em
  dsimp only at el er eq em
  rw [el, er, eq, em]
def rbAt (y : Cf) (m : Int) : Rb := ⟨(seenR y).q, (seenR y).l, (seenR y).r, m⟩
/-- what the fast run tells from a shot on -/
theorem fastC {t : Tab} {st sg : Nat} {y : Cf} {N : Nat} (ht : TabOk t st sg) (hy : StartN y st sg N) (w : Int) :
    RbOk ⟨(seenR y).q, (seenR y).l, (seenR y).r, 0⟩ st sg ∧ ((seenR y).l.length ≤ 2 * N ∧ (seenR y).r.length ≤ 2 * N) ∧
    (∀ k, cutR none (rowC t w.toNat y) ≤ k → fastS t k ⟨(seenR y).q, (seenR y).l, (seenR y).r, 0⟩ w = some (rbAt (runC t w.toNat y).2 ((runC t w.toNat y).2.p - y.p), (((runC t w.toNat y).1 : Nat) : Int), cutR none (rowC t w.toNat y))) ∧
    (∀ k, k < cutR none (rowC t w.toNat y) → fastS t k ⟨(seenR y).q, (seenR y).l, (seenR y).r, 0⟩ w = none) := by
  obtain ⟨hf, hc, hl⟩ := hy
  obtain ⟨r1, r2, r3⟩ := seen_rep hc
  have hq : (seenR y).q = y.q := rfl
  have hm : (seenR y).m = y.p := rfl
  have h0 : RbOk ⟨(seenR y).q, (seenR y).l, (seenR y).r, 0⟩ st sg := ⟨⟨by rw [hq]; exact hf.q0, by rw [hq]; exact hf.q1⟩, r2, r3⟩
  have h1 : RbOk (seenR y) st sg := ⟨h0.q, r2, r3⟩
  have ef : ∀ k, fastS t k (seenR y) w = (fastS t k ⟨(seenR y).q, (seenR y).l, (seenR y).r, 0⟩ w).map fun z => (offS z.1 y.p, z.2) := fun k => by
    have : seenR y = offS ⟨(seenR y).q, (seenR y).l, (seenR y).r, 0⟩ y.p := by
      show seenR y = ⟨_, _, _, 0 + y.p⟩
      rw [Int.zero_add, ← hm]
    conv => lhs; rw [this]
    exact fast_off
  have len : (seenR y).l.length ≤ 2 * N ∧ (seenR y).r.length ≤ 2 * N := by
    have hsl := sortC_len hc.n
    obtain ⟨_, _, l3, _⟩ := rowOf_ok (leftM_ok (p := y.p) (sortC_rise hc.n) (sortC_v hc))
    obtain ⟨_, _, l5, _⟩ := rowOf_ok (rightM_ok (p := y.p) (sortC_rise hc.n) (sortC_v hc))
    have hfl := List.length_filter_le (fun x : Int × Int => decide (x.1 < y.p)) (sortC y.c).reverse
    have hfr := List.length_filter_le (fun x : Int × Int => decide (y.p ≤ x.1)) (sortC y.c)
    rw [List.length_reverse] at hfl
    have lel : (leftM y.p (sortC y.c)).length ≤ N := by simp only [leftM, List.length_map]; omega
    have ler : (rightM y.p (sortC y.c)).length ≤ N := by simp only [rightM, List.length_map]; omega
    have el : (seenR y).l = rowOf (leftM y.p (sortC y.c)) := rfl
    have er : (seenR y).r = rowOf (rightM y.p (sortC y.c)) := rfl
    rw [el, er]
    omega
  refine ⟨h0, len, ?_⟩
  by_cases c : w ≤ 0
  · have e : w.toNat = 0 := by omega
    rw [e]
    refine ⟨fun k _ => ?_, fun k hk => ?_⟩
    · rw [fast_stop (.inl c)]
      show _ = some (rbAt y (y.p - y.p), _, _)
      rw [Int.sub_self]
      rfl
    · have : cutR none (rowC t 0 y) = 0 := rfl
      omega
  · obtain ⟨W, rfl⟩ : ∃ W : Nat, w = W := ⟨w.toNat, by omega⟩
    rw [Int.toNat_natCast]
    obtain ⟨h2, h3⟩ := fast_cuts ht W W (Nat.le_refl _) h1 r1
    refine ⟨fun k hk => ?_, fun k hk => ?_⟩
    · obtain ⟨z, d, e1, e2, e3⟩ := h2 k hk
      have ezk := ef k
      rw [e1] at ezk
      cases e4 : fastS t k ⟨(seenR y).q, (seenR y).l, (seenR y).r, 0⟩ (W : Int) with
      | none => rw [e4] at ezk; cases ezk
      | some u =>
        rw [e4] at ezk
        obtain ⟨u1, u2, u3⟩ := u
        simp at ezk
        obtain ⟨z1, z2, z3⟩ := ezk
        have hzok := (fast_ok ht h1 e1).1
        have hs := seen_is hzok e3 (run_cel ht hf hc)
        unfold rbAt
        rw [hs]
        congr 1
        refine Prod.ext ?_ (Prod.ext (by show u2 = (((runC t W y).1 : Nat) : Int); omega) (by show u3 = cutR none (rowC t W y); omega))
        show u1 = ⟨z.q, z.l, z.r, _⟩
        rw [z1, e3.p, z1]
        cases u1
        simp [offS]
    · have := h3 k hk
      rw [ef k] at this
      cases e4 : fastS t k ⟨(seenR y).q, (seenR y).l, (seenR y).r, 0⟩ (W : Int) with
      | none => rfl
      | some u => rw [e4] at this; cases this

/-! ### promises -/
def W__law_seen (A : Cs) : DF := fun ds P => ∃ (y : Cf) (sg : Nat), ds = [cfD y] ∧ CelOk sg y.c ∧ y.c.length ≤ 10000 ∧ P.ok (.fz, stD y.q (seenR y).l (seenR y).r) ds
def shotM : Md := .T [.F, .F, .K]
def W__law_walk (A : Cs) : DF := fun ds P => ∃ (t : Tab) (st sg : Nat) (x : Cf) (n : Nat), ds = [tabL t, cfD x, .int n] ∧ TabOk t st sg ∧ CfOk x st sg ∧ (x.c.length ≤ 10000 ∧ n ≤ 1000) ∧ P.ok (.new (.T [shotM, .F]), .tup [cfD (runC t n x).2, .int ((runC t n x).1 : Nat)]) ds
def W__law_stretch (A : Cs) : DF := fun ds P => ∃ (t : Tab) (st sg : Nat) (y : Cf) (n : Nat), ds = [machD A t, tabL t, cfD y, stD y.q (seenR y).l (seenR y).r, .int n] ∧ TabOk t st sg ∧ StartN y st sg 400 ∧ n ≤ 20 ∧
  P.ok (.new (.T [shotM, .F, .F]), .tup [cfD (runC t n y).2, stD (runC t n y).2.q (seenR (runC t n y).2).l (seenR (runC t n y).2).r, .int ((runC t n y).1 : Nat)]) ds
def W__law_great_end (A : Cs) : DF := fun ds P => ∃ (t : Tab) (st sg : Nat) (q : Int) (l r : Row) (w c : Int), ds = [machD A t, stD q l r, .int w, .int c] ∧ TabOk t st sg ∧ RbOk ⟨q, l, r, 0⟩ st sg ∧ (l.length ≤ 1000 ∧ r.length ≤ 1000) ∧ (0 ≤ c ∧ c ≤ w) ∧ P.ok (.fz, .bl true) ds
end My

namespace My
open PySem PySem.Spec PyProof.Rows L2 VL
def w_is_number (A : Cs) : DS :=
  wRet (wAndV (wIsi "int" (wVar 0)) (wAndV (wNotV (wIsi "bool" (wVar 0))) (wChain (oB0 fun i j => decide (i ≤ j)) (oB0 fun i j => decide (i < j)) (wC (.int 0)) (wVar 0) (wVar 1))))

def w_entry_kept (A : Cs) : DS :=
  wSeq (wIfS (wT (wOp oIsN (wVar 0) (wC .non))) (wRet (wC .non)) (wNext)) <|
  wSeq (wIfS (wOr (wNot (wT (wIsi "tuple" (wVar 0)))) (wT (wOp oNe (wCB oLen (wCons (wVar 0) (wNil))) (wC (.int 3))))) (wNever) (wNext)) <|
  wSeq (wAsg (wVar 0) (wgTup 3 (wgCons (wgN 3) (wgCons (wgN 4) (wgCons (wgN 5) (wgNil)))))) <|
  wSeq (wIfS (wOr (wNot (wT (wCall [.F, .F] (W_is_number A) [] (wCons (wVar 3) (wCons (wVar 2) (wNil)))))) (wOr (wT (wOp oNotIn (wVar 4) (wTup (wCons (wC (.str "l")) (wCons (wC (.str "r")) (wNil)))))) (wNot (wT (wCall [.F, .F] (W_is_number A) [] (wCons (wVar 5) (wCons (wVar 1) (wNil)))))))) (wNever) (wNext)) <|
  wRet (wTup (wCons (wVar 3) (wCons (wVar 4) (wCons (wVar 5) (wNil)))))

def w_Machine_init (A : Cs) : DS :=
  wSeq (wIfS (wOr (wT (wOp oEq (wCB oLen (wCons (wVar 1) (wNil))) (wC (.int 0)))) (wT (wOp oEq (wCB oLen (wCons (wOp oIx (wVar 1) (wC (.int 0))) (wNil))) (wC (.int 0))))) (wNever) (wNext)) <|
  wSeq (wSet 2 (wFz (wCB oLen (wCons (wVar 1) (wNil))))) <|
  wSeq (wSet 3 (wFz (wCB oLen (wCons (wOp oIx (wVar 1) (wC (.int 0))) (wNil))))) <|
  wSeq (wSet 4 (wLst (wNil))) <|
  wSeq (wFor (wIt (wVar 1)) (wgN 5) (wSeq (wIfS (wT (wOp oNe (wCB oLen (wCons (wVar 5) (wNil))) (wVar 3))) (wNever) (wNext)) <|
  wDrop (wMut mApp (wVar 4) (wCons (wCB oTuple (wCons (wLc (wIt (wVar 5)) (wgN 6) (wYes) (wCall [.F, .F, .F] (W_entry_kept A) [] (wCons (wVar 6) (wCons (wVar 2) (wCons (wVar 3) (wNil))))) [6] []) (wNil))) (wNil))))) <|
  wPutF 0 A.C_Machine "table" 0 (wFz (wCB oTuple (wCons (wVar 4) (wNil))))

def w_states_of (A : Cs) : DS :=
  wRet (wCB oLen (wCons (wFld A.C_Machine "table" 0 (wVar 0)) (wNil)))

def w_signs_of (A : Cs) : DS :=
  wRet (wCB oLen (wCons (wOp oIx (wFld A.C_Machine "table" 0 (wVar 0)) (wC (.int 0))) (wNil)))

def w_ask_shot (A : Cs) : DS :=
  wSeq (wAsg (wVar 1) (wgTup 3 (wgCons (wgN 2) (wgCons (wgN 3) (wgCons (wgN 4) (wgNil)))))) <|
  wSeq (wIfS (wNot (wT (wCall [.F, .F] (W_is_number A) [] (wCons (wVar 2) (wCons (wCall [.F] (W_states_of A) [] (wCons (wVar 0) (wNil))) (wNil)))))) (wRaise A.C_NoShot) (wNext)) <|
  wSeq (wSet 5 (wFz (wC .non))) <|
  wFor (wIt (wVar 4)) (wgTup 2 (wgCons (wgN 6) (wgCons (wgN 7) (wgNil)))) (wSeq (wIfS (wOr (wNot (wT (wCall [.F, .F] (W_is_number A) [] (wCons (wVar 7) (wCons (wCall [.F] (W_signs_of A) [] (wCons (wVar 0) (wNil))) (wNil)))))) (wT (wOp oEq (wVar 7) (wC (.int 0))))) (wRaise A.C_NoShot) (wNext)) <|
  wSeq (wIfS (wAnd (wT (wOp oNotN (wVar 5) (wC .non))) (wT (wOp (oB0 fun i j => decide (i ≤ j)) (wVar 6) (wVar 5)))) (wRaise A.C_NoShot) (wNext)) <|
  wSet 5 (wFz (wVar 6)))

def w_Run_init (A : Cs) : DS :=
  wSeq (wPutF 0 A.C_Run "table" 0 (wFz (wFld A.C_Machine "table" 0 (wVar 1)))) <|
  wSeq (wPutF 0 A.C_Run "state" 1 (wFz (wOp oIx (wVar 2) (wC (.int 0))))) <|
  wSeq (wPutF 0 A.C_Run "place" 2 (wFz (wOp oIx (wVar 2) (wC (.int 1))))) <|
  wSeq (wPutF 0 A.C_Run "cells" 3 (wDic)) <|
  wFor (wIt (wOp oIx (wVar 2) (wC (.int 2)))) (wgTup 2 (wgCons (wgN 3) (wgCons (wgN 4) (wgNil)))) (wSub (wVar 4) (wFld A.C_Run "cells" 3 (wVar 0)) (wVar 3))

def w_Run_step (A : Cs) : DS :=
  wSeq (wSet 1 (wFz (wOp oIx (wOp oIx (wFld A.C_Run "table" 0 (wVar 0)) (wFld A.C_Run "state" 1 (wVar 0))) (wGet (wFld A.C_Run "cells" 3 (wVar 0)) (wCons (wFld A.C_Run "place" 2 (wVar 0)) (wCons (wC (.int 0)) (wNil))))))) <|
  wSeq (wIfS (wT (wOp oIsN (wVar 1) (wC .non))) (wRet (wC (.bl false))) (wNext)) <|
  wSeq (wIfS (wT (wOp oEq (wOp oIx (wVar 1) (wC (.int 0))) (wC (.int 0)))) (wDrop (wPopD (wFld A.C_Run "cells" 3 (wVar 0)) (wCons (wFld A.C_Run "place" 2 (wVar 0)) (wCons (wC (.int 0)) (wNil))))) (wSub (wOp oIx (wVar 1) (wC (.int 0))) (wFld A.C_Run "cells" 3 (wVar 0)) (wFld A.C_Run "place" 2 (wVar 0)))) <|
  wSeq (wIfS (wT (wOp oEq (wOp oIx (wVar 1) (wC (.int 1))) (wC (.str "r")))) (wPutF 0 A.C_Run "place" 2 (wFz (wOp oAdd (wFld A.C_Run "place" 2 (wVar 0)) (wC (.int 1))))) (wPutF 0 A.C_Run "place" 2 (wFz (wOp (oI0 fun i j => i - j) (wFld A.C_Run "place" 2 (wVar 0)) (wC (.int 1)))))) <|
  wSeq (wPutF 0 A.C_Run "state" 1 (wFz (wOp oIx (wVar 1) (wC (.int 2))))) <|
  wRet (wC (.bl true))

def w_Run_shot (A : Cs) : DS :=
  wSeq (wSet 2 (wFz (wLc (wIt (wCB oSorted (wCons (wCB oList (wCons (wFld A.C_Run "cells" 3 (wVar 0)) (wNil))) (wNil)))) (wgN 1) (wYes) (wTup (wCons (wVar 1) (wCons (wOp oIx (wFld A.C_Run "cells" 3 (wVar 0)) (wVar 1)) (wNil)))) [1] []))) <|
  wRet (wTup (wCons (wFld A.C_Run "state" 1 (wVar 0)) (wCons (wFld A.C_Run "place" 2 (wVar 0)) (wCons (wCB oTuple (wCons (wVar 2) (wNil))) (wNil)))))

def w_ran (A : Cs) : DS :=
  wSeq (wSet 2 (wFz (wC (.int 0)))) <|
  wSeq (wWhile (wAnd (wT (wOp (oB0 fun i j => decide (i < j)) (wVar 2) (wVar 1))) (wT (wMeth A.C_Run "step" [.P (.O [.F, .F, .F, .K])] (W_Run_step A) [] (wVar 0) wNil))) (wAug 2 (oI0 fun i j => i + j) (wC (.int 1)))) <|
  wRet (wVar 2)

def w_after_from (A : Cs) : DS :=
  wSeq (wDrop (wCall [.F, .F] (W_ask_shot A) [] (wCons (wVar 0) (wCons (wVar 1) (wNil))))) <|
  wSeq (wSet 3 (wMake A.C_Run 2 [.F, .F, .F, .K] (W_Run_init A) [] (wCons (wVar 0) (wCons (wVar 1) (wNil))))) <|
  wSeq (wSet 4 (wFz (wCall [.P (.O [.F, .F, .F, .K]), .F] (W_ran A) [] (wCons (wVar 3) (wCons (wVar 2) (wNil)))))) <|
  wRet (wTup (wCons (wMeth A.C_Run "shot" [.P (.O [.F, .F, .F, .K])] (W_Run_shot A) [] (wVar 3) wNil) (wCons (wVar 4) (wNil))))

def w_after (A : Cs) : DS :=
  wRet (wCall [.F, .F, .F] (W_after_from A) [] (wCons (wVar 0) (wCons (wC (.tup [.int 0, .int 0, .tup []])) (wCons (wVar 1) (wNil)))))

def w_stops_at (A : Cs) : DS :=
  wSeq (wSet 2 (wMake A.C_Run 2 [.F, .F, .F, .K] (W_Run_init A) [] (wCons (wVar 0) (wCons (wC (.tup [.int 0, .int 0, .tup []])) (wNil))))) <|
  wSeq (wSet 3 (wFz (wCall [.P (.O [.F, .F, .F, .K]), .F] (W_ran A) [] (wCons (wVar 2) (wCons (wVar 1) (wNil)))))) <|
  wSeq (wIfS (wAnd (wT (wOp (oB0 fun i j => decide (j ≤ i)) (wVar 1) (wC (.int 0)))) (wT (wOp oIsN (wOp oIx (wOp oIx (wFld A.C_Machine "table" 0 (wVar 0)) (wFld A.C_Run "state" 1 (wVar 2))) (wGet (wFld A.C_Run "cells" 3 (wVar 2)) (wCons (wFld A.C_Run "place" 2 (wVar 2)) (wCons (wC (.int 0)) (wNil))))) (wC .non)))) (wRet (wVar 3)) (wNext)) <|
  wRet (wC .non)

end My

namespace My
open PySem PySem.Spec PyProof.Rows L2 VL
def w_is_round (A : Cs) : DS :=
  wSeq (wIfS (wOr (wNot (wT (wIsi "tuple" (wVar 0)))) (wOr (wT (wOp oNeX (wCB oLen (wCons (wVar 0) (wNil))) (wC (.int 3)))) (wT (wOp oNeX (wOp oIx (wVar 0) (wC (.int 0))) (wVar 1))))) (wRet (wC (.bl false))) (wNext)) <|
  wSeq (wFor (wIt (wSl (wVar 0) (wSo (wC (.int 1))) (wNo))) (wgN 2) (wIfS (wOr (wNot (wT (wIsi "int" (wVar 2)))) (wT (wIsi "bool" (wVar 2)))) (wRet (wC (.bl false))) (wNext))) <|
  wRet (wChain (oB0 fun i j => decide (i ≤ j)) (oB0 fun i j => decide (i < j)) (wC (.int 0)) (wOp oIx (wVar 0) (wC (.int 1))) (wOp oIx (wVar 0) (wC (.int 2))))

def w_takes_same (A : Cs) : DS :=
  wSeq (wIfS (wNot (wT (wCall [.F, .F] (W_is_round A) [] (wCons (wVar 1) (wCons (wC (.str "same")) (wNil)))))) (wRet (wC (.bl false))) (wNext)) <|
  wSeq (wAsg (wVar 1) (wgTup 3 (wgCons (wgN 2) (wgCons (wgN 3) (wgCons (wgN 4) (wgNil)))))) <|
  wSeq (wSet 5 (wMake A.C_Run 2 [.F, .F, .F, .K] (W_Run_init A) [] (wCons (wVar 0) (wCons (wC (.tup [.int 0, .int 0, .tup []])) (wNil))))) <|
  wSeq (wIfS (wT (wOp (oB0 fun i j => decide (i < j)) (wCall [.P (.O [.F, .F, .F, .K]), .F] (W_ran A) [] (wCons (wVar 5) (wCons (wVar 3) (wNil)))) (wVar 3))) (wRet (wC (.bl false))) (wNext)) <|
  wSeq (wSet 6 (wFz (wMeth A.C_Run "shot" [.P (.O [.F, .F, .F, .K])] (W_Run_shot A) [] (wVar 5) wNil))) <|
  wRet (wAndV (wOp oEqX (wCall [.P (.O [.F, .F, .F, .K]), .F] (W_ran A) [] (wCons (wVar 5) (wCons (wOp (oI0 fun i j => i - j) (wVar 4) (wVar 3)) (wNil)))) (wOp (oI0 fun i j => i - j) (wVar 4) (wVar 3))) (wOp oEqX (wMeth A.C_Run "shot" [.P (.O [.F, .F, .F, .K])] (W_Run_shot A) [] (wVar 5) wNil) (wVar 6)))

def w__law_next (A : Cs) : DS :=
  wSeq (wSub (wOp oAdd (wOp oIx (wVar 1) (wC (.int 0))) (wC (.int 1))) (wVar 1) (wC (.int 0))) <|
  wSeq (wSet 2 (wFz (wIf (wT (wOp (oB0 fun i j => decide (j < i)) (wCB oLen (wCons (wVar 0) (wNil))) (wC (.int 0)))) (wOp oIx (wVar 0) (wOp (oI (fun _ j => 0 < j) fun i j => i % j) (wOp oIx (wVar 1) (wC (.int 0))) (wCB oLen (wCons (wVar 0) (wNil))))) (wC (.int 0))))) <|
  wSeq (wSet 3 (wFz (wOp (oI (fun _ j => 0 < j) fun i j => i % j) (wOp oMul (wOp oAdd (wOp oAdd (wOp (oI (fun _ j => 0 < j) fun i j => i % j) (wVar 2) (wC (.int 2147483647))) (wOp oMul (wOp oMul (wOp oIx (wVar 1) (wC (.int 0))) (wOp oIx (wVar 1) (wC (.int 0)))) (wC (.int 7919)))) (wC (.int 11))) (wC (.int 48271))) (wC (.int 2147483647))))) <|
  wRet (wOp (oI (fun _ j => 0 < j) fun i j => i % j) (wOp oMul (wVar 3) (wVar 3)) (wC (.int 1999999973)))

def w__law_table (A : Cs) : DS :=
  wSeq (wSet 4 (wEmp (.L .F))) <|
  wSeq (wFor (wRng1 (wCons (wVar 2) (wNil))) (wgN 5) (wSeq (wSet 6 (wLst (wNil))) <|
  wSeq (wFor (wRng1 (wCons (wVar 3) (wNil))) (wgN 7) (wSeq (wSet 8 (wFz (wCall [.F, .P (.L .F)] (W__law_next A) [] (wCons (wVar 0) (wCons (wVar 1) (wNil)))))) <|
  wSeq (wSet 9 (wFz (wTup (wCons (wOp (oI (fun _ j => 0 < j) fun i j => i % j) (wOp (oI CDiv fun i j => i / j) (wVar 8) (wC (.int 9))) (wVar 3)) (wCons (wOp oIx (wC (.str "lr")) (wOp (oI (fun _ j => 0 < j) fun i j => i % j) (wOp (oI CDiv fun i j => i / j) (wVar 8) (wC (.int 100))) (wC (.int 2)))) (wCons (wOp (oI (fun _ j => 0 < j) fun i j => i % j) (wOp (oI CDiv fun i j => i / j) (wVar 8) (wC (.int 300))) (wVar 2)) (wNil))))))) <|
  wSeq (wIfS (wT (wOp oEq (wOp (oI (fun _ j => 0 < j) fun i j => i % j) (wVar 8) (wC (.int 9))) (wC (.int 0)))) (wSet 9 (wFz (wC .non))) (wNext)) <|
  wDrop (wMut mApp (wVar 6) (wCons (wVar 9) (wNil))))) <|
  wDrop (wApp (wVar 4) (wMov 6)))) <|
  wRet (wMov 4)

def w__law_step (A : Cs) : DS :=
  wSeq (wAsg (wVar 1) (wgTup 3 (wgCons (wgN 2) (wgCons (wgN 3) (wgCons (wgN 4) (wgNil)))))) <|
  wSeq (wSet 5 (wFz (wOp oIx (wOp oIx (wVar 0) (wVar 2)) (wGet (wVar 4) (wCons (wVar 3) (wCons (wC (.int 0)) (wNil))))))) <|
  wSeq (wIfS (wT (wOp oIsN (wVar 5) (wC .non))) (wRet (wC .non)) (wNext)) <|
  wSeq (wSet 6 (wCB oDict (wCons (wVar 4) (wNil)))) <|
  wSeq (wSub (wOp oIx (wVar 5) (wC (.int 0))) (wVar 6) (wVar 3)) <|
  wSeq (wIfS (wT (wOp oEq (wOp oIx (wVar 5) (wC (.int 0))) (wC (.int 0)))) (wDrop (wPopD (wVar 6) (wCons (wVar 3) (wNil)))) (wNext)) <|
  wSeq (wIfS (wT (wOp oEq (wOp oIx (wVar 5) (wC (.int 1))) (wC (.str "r")))) (wRet (wTup (wCons (wOp oIx (wVar 5) (wC (.int 2))) (wCons (wOp oAdd (wVar 3) (wC (.int 1))) (wCons (wFrz 6) (wNil)))))) (wNext)) <|
  wRet (wTup (wCons (wOp oIx (wVar 5) (wC (.int 2))) (wCons (wOp (oI0 fun i j => i - j) (wVar 3) (wC (.int 1))) (wCons (wFrz 6) (wNil)))))

def w__law_run (A : Cs) : DS :=
  wSeq (wSet 3 (wLst (wCons (wVar 1) (wNil)))) <|
  wSeq (wWhile (wT (wOp (oB0 fun i j => decide (i ≤ j)) (wCB oLen (wCons (wVar 3) (wNil))) (wVar 2))) (wSeq (wSet 1 (wFz (wCall [.F, .F] (W__law_step A) [] (wCons (wVar 0) (wCons (wVar 1) (wNil)))))) <|
  wSeq (wIfS (wT (wOp oIsN (wVar 1) (wC .non))) (wRet (wMov 3)) (wNext)) <|
  wDrop (wMut mApp (wVar 3) (wCons (wVar 1) (wNil))))) <|
  wRet (wMov 3)

def w__law_shot (A : Cs) : DS :=
  wSeq (wAsg (wVar 0) (wgTup 3 (wgCons (wgN 1) (wgCons (wgN 2) (wgCons (wgN 3) (wgNil)))))) <|
  wRet (wTup (wCons (wVar 1) (wCons (wVar 2) (wCons (wCB oTuple (wCons (wLc (wIt (wCB oSorted (wCons (wCB oList (wCons (wVar 3) (wNil))) (wNil)))) (wgN 4) (wYes) (wTup (wCons (wVar 4) (wCons (wOp oIx (wVar 3) (wVar 4)) (wNil)))) [4] []) (wNil))) (wNil)))))

def w__law_machine_by (A : Cs) : DS :=
  wSeq (wSet 2 (wFz (wCall [.F, .P (.L .F)] (W__law_next A) [] (wCons (wVar 0) (wCons (wVar 1) (wNil)))))) <|
  wSeq (wSet 3 (wFz (wOp oIx (wLst (wCons (wC (.int 1)) (wCons (wC (.int 2)) (wCons (wC (.int 2)) (wCons (wC (.int 3)) (wCons (wC (.int 3)) (wCons (wC (.int 4)) (wNil)))))))) (wOp (oI (fun _ j => 0 < j) fun i j => i % j) (wVar 2) (wC (.int 6)))))) <|
  wSeq (wSet 4 (wFz (wOp oIx (wLst (wCons (wC (.int 2)) (wCons (wC (.int 2)) (wCons (wC (.int 3)) (wCons (wC (.int 2)) (wCons (wC (.int 4)) (wCons (wC (.int 1)) (wNil)))))))) (wOp (oI (fun _ j => 0 < j) fun i j => i % j) (wOp (oI CDiv fun i j => i / j) (wVar 2) (wC (.int 6))) (wC (.int 6)))))) <|
  wSeq (wIfS (wT (wOp oEq (wOp (oI (fun _ j => 0 < j) fun i j => i % j) (wOp (oI CDiv fun i j => i / j) (wVar 2) (wC (.int 36))) (wC (.int 13))) (wC (.int 0)))) (wAsg (wTup (wCons (wC (.int 5)) (wCons (wC (.int 8)) (wNil)))) (wgTup 2 (wgCons (wgN 3) (wgCons (wgN 4) (wgNil))))) (wNext)) <|
  wSeq (wSet 5 (wCall [.F, .P (.L .F), .F, .F] (W__law_table A) [] (wCons (wVar 0) (wCons (wVar 1) (wCons (wVar 3) (wCons (wVar 4) (wNil))))))) <|
  wSeq (wFor (wRng1 (wCons (wVar 3) (wNil))) (wgN 6) (wFor (wRng1 (wCons (wVar 4) (wNil))) (wgN 7) (wSeq (wSet 2 (wFz (wCall [.F, .P (.L .F)] (W__law_next A) [] (wCons (wVar 0) (wCons (wVar 1) (wNil)))))) <|
  wSeq (wIfS (wAnd (wT (wOp oEq (wOp (oI (fun _ j => 0 < j) fun i j => i % j) (wVar 2) (wC (.int 3))) (wC (.int 0)))) (wT (wOp oNotN (wOp oIx (wOp oIx (wVar 5) (wVar 6)) (wVar 7)) (wC .non)))) (wSub (wTup (wCons (wOp oIx (wOp oIx (wOp oIx (wVar 5) (wVar 6)) (wVar 7)) (wC (.int 0))) (wCons (wOp oIx (wOp oIx (wOp oIx (wVar 5) (wVar 6)) (wVar 7)) (wC (.int 1))) (wCons (wVar 6) (wNil))))) (wOp oIx (wVar 5) (wVar 6)) (wVar 7)) (wNext)) <|
  wIfS (wAnd (wT (wOp (oB0 fun i j => decide (j < i)) (wOp (oI (fun _ j => 0 < j) fun i j => i % j) (wOp (oI CDiv fun i j => i / j) (wVar 2) (wC (.int 3))) (wC (.int 7))) (wC (.int 1)))) (wT (wOp oIsN (wOp oIx (wOp oIx (wVar 5) (wVar 6)) (wVar 7)) (wC .non)))) (wSub (wTup (wCons (wOp (oI (fun _ j => 0 < j) fun i j => i % j) (wOp (oI CDiv fun i j => i / j) (wVar 2) (wC (.int 30))) (wVar 4)) (wCons (wOp oIx (wC (.str "lr")) (wOp (oI (fun _ j => 0 < j) fun i j => i % j) (wOp (oI CDiv fun i j => i / j) (wVar 2) (wC (.int 300))) (wC (.int 2)))) (wCons (wOp (oI (fun _ j => 0 < j) fun i j => i % j) (wOp (oI CDiv fun i j => i / j) (wVar 2) (wC (.int 600))) (wVar 3)) (wNil))))) (wOp oIx (wVar 5) (wVar 6)) (wVar 7)) (wNext)))) <|
  wRet (wMov 5)

end My

namespace My
open PySem PySem.Spec PyProof.Rows L2 VL
def w__law_same (A : Cs) (n : Nat) : DS :=
  wSeq (wIfS (wOr (wT (wIsi "list" (wVar 1))) (wT (wIsi "tuple" (wVar 1)))) (wSeq (wIfS (wOr (wT (wOp oNe (wIsi "list" (wVar 0)) (wIsi "list" (wVar 1)))) (wT (wOp oNe (wIsi "tuple" (wVar 0)) (wIsi "tuple" (wVar 1))))) (wRet (wC (.bl false))) (wNext)) <|
  wRet (wAndV (wOp oEq (wCB oLen (wCons (wVar 0) (wNil))) (wCB oLen (wCons (wVar 1) (wNil)))) (wCB oAll (wCons (wLc (wZip (wCons (wVar 0) (wCons (wVar 1) (wNil)))) (wgTup 2 (wgCons (wgN 2) (wgCons (wgN 3) (wgNil)))) (wYes) (wCall [.F, .F] (W__law_same A n) [] (wCons (wVar 2) (wCons (wVar 3) (wNil)))) [2, 3] []) (wNil))))) (wNext)) <|
  wSeq (wIfS (wT (wOp oIsN (wVar 1) (wC .non))) (wRet (wOp oIsN (wVar 0) (wC .non))) (wNext)) <|
  wSeq (wIfS (wT (wIsi "str" (wVar 1))) (wRet (wAndV (wIsi "str" (wVar 0)) (wOp oEq (wVar 0) (wVar 1)))) (wNext)) <|
  wRet (wAndV (wIsi "int" (wVar 0)) (wAndV (wNotV (wIsi "bool" (wVar 0))) (wOp oEq (wVar 0) (wVar 1))))

def w_ask_row (A : Cs) : DS :=
  wSeq (wSet 1 (wFz (wC .non))) <|
  wSeq (wFor (wIt (wVar 0)) (wgTup 2 (wgCons (wgN 2) (wgCons (wgN 3) (wgNil)))) (wSeq (wIfS (wOr (wT (wOp (oB0 fun i j => decide (i < j)) (wVar 2) (wC (.int 0)))) (wOr (wT (wOp (oB0 fun i j => decide (i < j)) (wVar 3) (wC (.int 1)))) (wT (wOp oEqX (wVar 2) (wVar 1))))) (wNever) (wNext)) <|
  wSet 1 (wFz (wVar 2)))) <|
  wIfS (wT (wOp oEqX (wVar 1) (wC (.int 0)))) (wNever) (wNext)

def w_ask_stretches (A : Cs) : DS :=
  wSeq (wAsg (wVar 0) (wgTup 3 (wgCons (wgN 1) (wgCons (wgN 2) (wgCons (wgN 3) (wgNil)))))) <|
  wSeq (wIfS (wT (wOp (oB0 fun i j => decide (i < j)) (wVar 1) (wC (.int 0)))) (wNever) (wNext)) <|
  wSeq (wDrop (wCall [.F] (W_ask_row A) [] (wCons (wVar 2) (wNil)))) <|
  wDrop (wCall [.F] (W_ask_row A) [] (wCons (wVar 3) (wNil)))

def w_put (A : Cs) : DS :=
  wSeq (wIfS (wOr (wT (wOp oEq (wVar 2) (wC (.int 0)))) (wAnd (wT (wOp oEq (wVar 1) (wC (.int 0)))) (wT (wOp oEq (wCB oLen (wCons (wVar 0) (wNil))) (wC (.int 0)))))) (wRetN) (wNext)) <|
  wIfS (wAnd (wT (wOp (oB0 fun i j => decide (j < i)) (wCB oLen (wCons (wVar 0) (wNil))) (wC (.int 0)))) (wT (wOp oEq (wOp oIx (wOp oIx (wVar 0) (wUn oNeg (wC (.int 1)))) (wC (.int 0))) (wVar 1)))) (wSub (wTup (wCons (wVar 1) (wCons (wOp oAdd (wOp oIx (wOp oIx (wVar 0) (wUn oNeg (wC (.int 1)))) (wC (.int 1))) (wVar 2)) (wNil)))) (wVar 0) (wUn oNeg (wC (.int 1)))) (wDrop (wMut mApp (wVar 0) (wCons (wTup (wCons (wVar 1) (wCons (wVar 2) (wNil)))) (wNil))))

def w_drop (A : Cs) : DS :=
  wSeq (wIfS (wOr (wT (wOp oEq (wVar 1) (wC (.int 0)))) (wT (wOp oEq (wCB oLen (wCons (wVar 0) (wNil))) (wC (.int 0))))) (wRetN) (wNext)) <|
  wSeq (wAsg (wMut mPop (wVar 0) wNil) (wgTup 2 (wgCons (wgN 2) (wgCons (wgN 3) (wgNil))))) <|
  wIfS (wT (wOp (oB0 fun i j => decide (j < i)) (wVar 3) (wVar 1))) (wDrop (wMut mApp (wVar 0) (wCons (wTup (wCons (wVar 2) (wCons (wOp (oI0 fun i j => i - j) (wVar 3) (wVar 1)) (wNil)))) (wNil)))) (wNext)

def w_near_sign (A : Cs) : DS :=
  wSeq (wIfS (wT (wOp oEq (wCB oLen (wCons (wVar 0) (wNil))) (wC (.int 0)))) (wRet (wC (.int 0))) (wNext)) <|
  wRet (wOp oIx (wOp oIx (wVar 0) (wUn oNeg (wC (.int 1)))) (wC (.int 0)))

def w_near_count (A : Cs) : DS :=
  wSeq (wIfS (wT (wOp oNe (wCall [.P (.L .F)] (W_near_sign A) [] (wCons (wVar 0) (wNil))) (wVar 1))) (wRet (wC (.int 0))) (wNext)) <|
  wSeq (wIfS (wT (wOp oEq (wCB oLen (wCons (wVar 0) (wNil))) (wC (.int 0)))) (wRet (wVar 2)) (wNext)) <|
  wRet (wCB oMin2 (wCons (wVar 2) (wCons (wOp oIx (wOp oIx (wVar 0) (wUn oNeg (wC (.int 1)))) (wC (.int 1))) (wNil))))

def w_Ribbon_init (A : Cs) : DS :=
  wSeq (wPutF 0 A.C_Ribbon "table" 0 (wFz (wFld A.C_Machine "table" 0 (wVar 1)))) <|
  wSeq (wPutF 0 A.C_Ribbon "now" 1 (wFz (wOp oIx (wVar 2) (wC (.int 0))))) <|
  wSeq (wPutF 0 A.C_Ribbon "left" 2 (wUn oLRev (wOp oIx (wVar 2) (wC (.int 1))))) <|
  wSeq (wPutF 0 A.C_Ribbon "right" 3 (wUn oLRev (wOp oIx (wVar 2) (wC (.int 2))))) <|
  wPutF 0 A.C_Ribbon "moved" 4 (wFz (wC (.int 0)))

def w_Ribbon_entry (A : Cs) : DS :=
  wRet (wOp oIx (wOp oIx (wFld A.C_Ribbon "table" 0 (wVar 0)) (wFld A.C_Ribbon "now" 1 (wVar 0))) (wCall [.P (.L .F)] (W_near_sign A) [] (wCons (wFld A.C_Ribbon "right" 3 (wVar 0)) (wNil))))

def w_Ribbon_leap (A : Cs) : DS :=
  wSeq (wAsg (wMeth A.C_Ribbon "entry" [.P (.O [.F, .F, .L .F, .L .F, .F])] (W_Ribbon_entry A) [] (wVar 0) wNil) (wgTup 3 (wgCons (wgN 2) (wgCons (wgN 3) (wgCons (wgN 4) (wgNil)))))) <|
  wSeq (wSet 5 (wFz (wCall [.P (.L .F)] (W_near_sign A) [] (wCons (wFld A.C_Ribbon "right" 3 (wVar 0)) (wNil))))) <|
  wSeq (wSet 6 (wFz (wC (.int 1)))) <|
  wSeq (wIfS (wAnd (wT (wOp oEq (wVar 4) (wFld A.C_Ribbon "now" 1 (wVar 0)))) (wT (wOp oEq (wVar 3) (wC (.str "r"))))) (wSet 6 (wFz (wCall [.P (.L .F), .F, .F] (W_near_count A) [] (wCons (wFld A.C_Ribbon "right" 3 (wVar 0)) (wCons (wVar 5) (wCons (wVar 1) (wNil))))))) (wIfS (wT (wOp oEq (wVar 4) (wFld A.C_Ribbon "now" 1 (wVar 0)))) (wSet 6 (wFz (wOp oAdd (wC (.int 1)) (wCall [.P (.L .F), .F, .F] (W_near_count A) [] (wCons (wFld A.C_Ribbon "left" 2 (wVar 0)) (wCons (wVar 5) (wCons (wOp (oI0 fun i j => i - j) (wVar 1) (wC (.int 1))) (wNil)))))))) (wNext))) <|
  wSeq (wIfS (wT (wOp oEq (wVar 3) (wC (.str "r")))) (wSeq (wDrop (wCall [.P (.L .F), .F] (W_drop A) [] (wCons (wFld A.C_Ribbon "right" 3 (wVar 0)) (wCons (wVar 6) (wNil))))) <|
  wSeq (wDrop (wCall [.P (.L .F), .F, .F] (W_put A) [] (wCons (wFld A.C_Ribbon "left" 2 (wVar 0)) (wCons (wVar 2) (wCons (wVar 6) (wNil)))))) <|
  wAugF 0 A.C_Ribbon "moved" 4 6 (fun i j => i + j)) (wSeq (wDrop (wCall [.P (.L .F), .F] (W_drop A) [] (wCons (wFld A.C_Ribbon "right" 3 (wVar 0)) (wCons (wC (.int 1)) (wNil))))) <|
  wSeq (wDrop (wCall [.P (.L .F), .F] (W_drop A) [] (wCons (wFld A.C_Ribbon "left" 2 (wVar 0)) (wCons (wOp (oI0 fun i j => i - j) (wVar 6) (wC (.int 1))) (wNil))))) <|
  wSeq (wDrop (wCall [.P (.L .F), .F, .F] (W_put A) [] (wCons (wFld A.C_Ribbon "right" 3 (wVar 0)) (wCons (wVar 2) (wCons (wVar 6) (wNil)))))) <|
  wSeq (wSet 7 (wFz (wCall [.P (.L .F)] (W_near_sign A) [] (wCons (wFld A.C_Ribbon "left" 2 (wVar 0)) (wNil))))) <|
  wSeq (wDrop (wCall [.P (.L .F), .F] (W_drop A) [] (wCons (wFld A.C_Ribbon "left" 2 (wVar 0)) (wCons (wC (.int 1)) (wNil))))) <|
  wSeq (wDrop (wCall [.P (.L .F), .F, .F] (W_put A) [] (wCons (wFld A.C_Ribbon "right" 3 (wVar 0)) (wCons (wVar 7) (wCons (wC (.int 1)) (wNil)))))) <|
  wAugF 0 A.C_Ribbon "moved" 4 6 (fun i j => i - j))) <|
  wSeq (wPutF 0 A.C_Ribbon "now" 1 (wFz (wVar 4))) <|
  wRet (wVar 6)

def w_Ribbon_told (A : Cs) : DS :=
  wRet (wTup (wCons (wFld A.C_Ribbon "now" 1 (wVar 0)) (wCons (wUn oLRev (wFld A.C_Ribbon "left" 2 (wVar 0))) (wCons (wUn oLRev (wFld A.C_Ribbon "right" 3 (wVar 0))) (wNil)))))

def w_ask_for (A : Cs) : DS :=
  wSeq (wDrop (wCall [.F] (W_ask_stretches A) [] (wCons (wVar 1) (wNil)))) <|
  wSeq (wIfS (wT (wOp (oB0 fun i j => decide (j ≤ i)) (wOp oIx (wVar 1) (wC (.int 0))) (wCall [.F] (W_states_of A) [] (wCons (wVar 0) (wNil))))) (wNever) (wNext)) <|
  wFor (wIt (wOp oAdd (wCB oList (wCons (wOp oIx (wVar 1) (wC (.int 1))) (wNil))) (wCB oList (wCons (wOp oIx (wVar 1) (wC (.int 2))) (wNil))))) (wgTup 2 (wgCons (wgN 2) (wgCons (wgN 3) (wgNil)))) (wIfS (wT (wOp (oB0 fun i j => decide (j ≤ i)) (wVar 2) (wCall [.F] (W_signs_of A) [] (wCons (wVar 0) (wNil))))) (wNever) (wNext))

def w_fast_from (A : Cs) : DS :=
  wSeq (wDrop (wCall [.F, .F] (W_ask_for A) [] (wCons (wVar 0) (wCons (wVar 1) (wNil))))) <|
  wSeq (wSet 4 (wMake A.C_Ribbon 2 [.F, .F, .L .F, .L .F, .F] (W_Ribbon_init A) [] (wCons (wVar 0) (wCons (wVar 1) (wNil))))) <|
  wSeq (wSet 5 (wFz (wC (.int 0)))) <|
  wSeq (wSet 6 (wFz (wC (.int 0)))) <|
  wSeq (wWhile (wAnd (wT (wOp (oB0 fun i j => decide (i < j)) (wVar 5) (wVar 2))) (wT (wOp oNotN (wMeth A.C_Ribbon "entry" [.P (.O [.F, .F, .L .F, .L .F, .F])] (W_Ribbon_entry A) [] (wVar 4) wNil) (wC .non)))) (wSeq (wIfS (wT (wOp (oB0 fun i j => decide (j ≤ i)) (wVar 6) (wVar 3))) (wRaise A.C_TooLong) (wNext)) <|
  wSeq (wAug 5 (oI0 fun i j => i + j) (wMeth A.C_Ribbon "leap" [.P (.O [.F, .F, .L .F, .L .F, .F]), .F] (W_Ribbon_leap A) [] (wVar 4) (wCons (wOp (oI0 fun i j => i - j) (wVar 2) (wVar 5)) (wNil)))) <|
  wAug 6 (oI0 fun i j => i + j) (wC (.int 1)))) <|
  wRet (wTup (wCons (wMeth A.C_Ribbon "told" [.P (.O [.F, .F, .L .F, .L .F, .F])] (W_Ribbon_told A) [] (wVar 4) wNil) (wCons (wFld A.C_Ribbon "moved" 4 (wVar 4)) (wCons (wVar 5) (wCons (wVar 6) (wNil))))))

def w__law_put (A : Cs) : DS :=
  wSeq (wIfS (wOr (wT (wOp oEqX (wVar 2) (wC (.int 0)))) (wAnd (wT (wOp oEqX (wVar 1) (wC (.int 0)))) (wT (wOp oEqX (wVar 0) (wLst (wNil)))))) (wRet (wFz (wVar 0))) (wNext)) <|
  wSeq (wIfS (wAnd (wT (wOp oNeX (wVar 0) (wLst (wNil)))) (wT (wOp oEqX (wOp oIx (wOp oIx (wVar 0) (wC (.int 0))) (wC (.int 0))) (wVar 1)))) (wRet (wFz (wOp oAdd (wLst (wCons (wTup (wCons (wVar 1) (wCons (wOp oAdd (wOp oIx (wOp oIx (wVar 0) (wC (.int 0))) (wC (.int 1))) (wVar 2)) (wNil)))) (wNil))) (wSl (wVar 0) (wSo (wC (.int 1))) (wNo))))) (wNext)) <|
  wRet (wFz (wOp oAdd (wLst (wCons (wTup (wCons (wVar 1) (wCons (wVar 2) (wNil)))) (wNil))) (wVar 0)))

def w__law_cut (A : Cs) : DS :=
  wSeq (wIfS (wOr (wT (wOp oEqX (wVar 0) (wLst (wNil)))) (wT (wOp oEqX (wVar 1) (wC (.int 0))))) (wRet (wFz (wVar 0))) (wNext)) <|
  wSeq (wAsg (wOp oIx (wVar 0) (wC (.int 0))) (wgTup 2 (wgCons (wgN 2) (wgCons (wgN 3) (wgNil))))) <|
  wRet (wFz (wOp oAdd (wOp oMul (wLst (wCons (wTup (wCons (wVar 2) (wCons (wOp (oI0 fun i j => i - j) (wVar 3) (wVar 1)) (wNil)))) (wNil))) (wCB oInt (wCons (wOp (oB0 fun i j => decide (j < i)) (wVar 3) (wVar 1)) (wNil)))) (wSl (wVar 0) (wSo (wC (.int 1))) (wNo))))

def w__law_run_of (A : Cs) : DS :=
  wSeq (wIfS (wT (wOp oEqX (wVar 0) (wLst (wNil)))) (wRet (wOp oMul (wVar 2) (wCB oInt (wCons (wOp oEqX (wVar 1) (wC (.int 0))) (wNil))))) (wNext)) <|
  wRet (wOp oMul (wCB oMin2 (wCons (wVar 2) (wCons (wOp oIx (wOp oIx (wVar 0) (wC (.int 0))) (wC (.int 1))) (wNil)))) (wCB oInt (wCons (wOp oEqX (wOp oIx (wOp oIx (wVar 0) (wC (.int 0))) (wC (.int 0))) (wVar 1)) (wNil))))

def w__law_leap (A : Cs) : DS :=
  wSeq (wAsg (wVar 1) (wgTup 3 (wgCons (wgN 3) (wgCons (wgN 4) (wgCons (wgN 5) (wgNil)))))) <|
  wSeq (wSet 6 (wFz (wIf (wT (wOp oNeX (wVar 5) (wLst (wNil)))) (wOp oIx (wOp oIx (wVar 5) (wC (.int 0))) (wC (.int 0))) (wC (.int 0))))) <|
  wSeq (wSet 7 (wFz (wOp oIx (wOp oIx (wVar 0) (wVar 3)) (wVar 6)))) <|
  wSeq (wIfS (wT (wOp oIsN (wVar 7) (wC .non))) (wRet (wC .non)) (wNext)) <|
  wSeq (wAsg (wVar 7) (wgTup 3 (wgCons (wgN 8) (wgCons (wgN 9) (wgCons (wgN 10) (wgNil)))))) <|
  wSeq (wIfS (wT (wOp oEqX (wVar 9) (wC (.str "r")))) (wSeq (wSet 11 (wFz (wIf (wT (wOp oEqX (wVar 10) (wVar 3))) (wCall [.F, .F, .F] (W__law_run_of A) [] (wCons (wVar 5) (wCons (wVar 6) (wCons (wVar 2) (wNil))))) (wC (.int 1))))) <|
  wSeq (wSet 4 (wFz (wCall [.F, .F, .F] (W__law_put A) [] (wCons (wVar 4) (wCons (wVar 8) (wCons (wVar 11) (wNil))))))) <|
  wRet (wTup (wCons (wTup (wCons (wVar 10) (wCons (wVar 4) (wCons (wCall [.F, .F] (W__law_cut A) [] (wCons (wVar 5) (wCons (wVar 11) (wNil)))) (wNil))))) (wCons (wVar 11) (wCons (wVar 11) (wNil)))))) (wNext)) <|
  wSeq (wSet 11 (wFz (wIf (wT (wOp oEqX (wVar 10) (wVar 3))) (wOp oAdd (wC (.int 1)) (wCall [.F, .F, .F] (W__law_run_of A) [] (wCons (wVar 4) (wCons (wVar 6) (wCons (wOp (oI0 fun i j => i - j) (wVar 2) (wC (.int 1))) (wNil)))))) (wC (.int 1))))) <|
  wSeq (wSet 5 (wFz (wCall [.F, .F, .F] (W__law_put A) [] (wCons (wCall [.F, .F] (W__law_cut A) [] (wCons (wVar 5) (wCons (wC (.int 1)) (wNil)))) (wCons (wVar 8) (wCons (wVar 11) (wNil))))))) <|
  wSeq (wSet 4 (wFz (wCall [.F, .F] (W__law_cut A) [] (wCons (wVar 4) (wCons (wOp (oI0 fun i j => i - j) (wVar 11) (wC (.int 1))) (wNil)))))) <|
  wSeq (wSet 12 (wFz (wIf (wT (wOp oNeX (wVar 4) (wLst (wNil)))) (wOp oIx (wOp oIx (wVar 4) (wC (.int 0))) (wC (.int 0))) (wC (.int 0))))) <|
  wRet (wTup (wCons (wTup (wCons (wVar 10) (wCons (wCall [.F, .F] (W__law_cut A) [] (wCons (wVar 4) (wCons (wC (.int 1)) (wNil)))) (wCons (wCall [.F, .F, .F] (W__law_put A) [] (wCons (wVar 5) (wCons (wVar 12) (wCons (wC (.int 1)) (wNil))))) (wNil))))) (wCons (wVar 11) (wCons (wUn oNeg (wVar 11)) (wNil)))))

def w__law_leaps (A : Cs) : DS :=
  wSeq (wAsg (wTup (wCons (wC (.int 0)) (wCons (wC (.int 0)) (wCons (wC (.int 0)) (wNil))))) (wgTup 3 (wgCons (wgN 4) (wgCons (wgN 5) (wgCons (wgN 6) (wgNil)))))) <|
  wSeq (wWhile (wT (wOp (oB0 fun i j => decide (i < j)) (wVar 4) (wVar 2))) (wSeq (wSet 7 (wFz (wCall [.F, .F, .F] (W__law_leap A) [] (wCons (wVar 0) (wCons (wVar 1) (wCons (wOp (oI0 fun i j => i - j) (wVar 2) (wVar 4)) (wNil))))))) <|
  wSeq (wIfS (wT (wOp oIsN (wVar 7) (wC .non))) (wRet (wTup (wCons (wVar 1) (wCons (wVar 5) (wCons (wVar 4) (wCons (wVar 6) (wNil))))))) (wNext)) <|
  wSeq (wIfS (wT (wOp oEq (wVar 6) (wVar 3))) (wRet (wC .non)) (wNext)) <|
  wSeq (wSet 1 (wFz (wOp oIx (wVar 7) (wC (.int 0))))) <|
  wSeq (wPar 4 5 (wCons (wOp oAdd (wVar 4) (wOp oIx (wVar 7) (wC (.int 1)))) (wCons (wOp oAdd (wVar 5) (wOp oIx (wVar 7) (wC (.int 2)))) (wNil)))) <|
  wSet 6 (wFz (wOp oAdd (wVar 6) (wC (.int 1)))))) <|
  wRet (wTup (wCons (wVar 1) (wCons (wVar 5) (wCons (wVar 4) (wCons (wVar 6) (wNil))))))

def w__law_fast (A : Cs) : DS :=
  wSeq (wSet 4 (wFz (wC .non))) <|
  wSeq (wTryO A.C_TooLong (wSet 4 (wFz (wCall [.F, .F, .F, .F] (W_fast_from A) [] (wCons (wVar 0) (wCons (wVar 1) (wCons (wVar 2) (wCons (wVar 3) (wNil)))))))) (wSet 4 (wFz (wC (.str "too long"))))) <|
  wRet (wVar 4)

def w__law_far (A : Cs) : DS :=
  wSeq (wSet 2 (wFz (wCall [.F, .P (.L .F)] (W__law_next A) [] (wCons (wVar 0) (wCons (wVar 1) (wNil)))))) <|
  wSeq (wSet 3 (wFz (wIf (wT (wOp (oB0 fun i j => decide (j < i)) (wCB oLen (wCons (wVar 0) (wNil))) (wC (.int 0)))) (wOp oIx (wVar 0) (wOp (oI (fun _ j => 0 < j) fun i j => i % j) (wOp oIx (wVar 1) (wC (.int 0))) (wCB oLen (wCons (wVar 0) (wNil))))) (wC (.int 0))))) <|
  wSeq (wSet 4 (wFz (wC (.int 10)))) <|
  wSeq (wFor (wRng1 (wCons (wOp (oI (fun _ j => 0 < j) fun i j => i % j) (wOp (oI CDiv fun i j => i / j) (wVar 2) (wC (.int 7))) (wC (.int 50))) (wNil))) (wgN 5) (wSet 4 (wFz (wOp oMul (wVar 4) (wC (.int 10)))))) <|
  wRet (wOp oAdd (wC (.int 1)) (wOp (oI (fun _ j => 0 < j) fun i j => i % j) (wOp oAdd (wOp (oI (fun _ j => 0 < j) fun i j => i % j) (wVar 3) (wOp (oI CPow fun i j => i ^ j.toNat) (wC (.int 10)) (wC (.int 50)))) (wOp oMul (wVar 2) (wOp (oI CPow fun i j => i ^ j.toNat) (wC (.int 10)) (wC (.int 40))))) (wVar 4)))

def w__law_great_row (A : Cs) : DS :=
  wSeq (wSet 3 (wLst (wNil))) <|
  wSeq (wSet 4 (wFz (wC .non))) <|
  wSeq (wFor (wRng1 (wCons (wOp (oI (fun _ j => 0 < j) fun i j => i % j) (wCall [.F, .P (.L .F)] (W__law_next A) [] (wCons (wVar 0) (wCons (wVar 1) (wNil)))) (wC (.int 5))) (wNil))) (wgN 5) (wSeq (wSet 6 (wFz (wCall [.F, .P (.L .F)] (W__law_next A) [] (wCons (wVar 0) (wCons (wVar 1) (wNil)))))) <|
  wSeq (wSet 7 (wFz (wOp (oI (fun _ j => 0 < j) fun i j => i % j) (wVar 6) (wVar 2)))) <|
  wSeq (wSet 8 (wFz (wOp oAdd (wC (.int 1)) (wOp (oI (fun _ j => 0 < j) fun i j => i % j) (wOp (oI CDiv fun i j => i / j) (wVar 6) (wC (.int 8))) (wC (.int 4)))))) <|
  wSeq (wIfS (wT (wOp oEqX (wOp (oI (fun _ j => 0 < j) fun i j => i % j) (wOp (oI CDiv fun i j => i / j) (wVar 6) (wC (.int 32))) (wC (.int 3))) (wC (.int 0)))) (wSet 8 (wFz (wCall [.F, .P (.L .F)] (W__law_far A) [] (wCons (wVar 0) (wCons (wVar 1) (wNil)))))) (wNext)) <|
  wIfS (wT (wOp oNeX (wVar 7) (wVar 4))) (wSeq (wDrop (wMut mApp (wVar 3) (wCons (wTup (wCons (wVar 7) (wCons (wVar 8) (wNil)))) (wNil)))) <|
  wSet 4 (wFz (wVar 7))) (wNext))) <|
  wSeq (wIfS (wT (wOp oEqX (wVar 4) (wC (.int 0)))) (wDrop (wMut mPop (wVar 3) wNil)) (wNext)) <|
  wRet (wMov 3)

def w__law_split (A : Cs) : DS :=
  wSeq (wSet 5 (wFz (wCall [.F, .F, .F, .F] (W__law_fast A) [] (wCons (wVar 0) (wCons (wVar 1) (wCons (wVar 3) (wCons (wC (.int 50)) (wNil)))))))) <|
  wSeq (wIfS (wOr (wT (wOp oEqX (wVar 5) (wC (.str "too long")))) (wOr (wT (wOp oIsN (wVar 5) (wC .non))) (wT (wOp (oB0 fun i j => decide (j < i)) (wOp oIx (wVar 5) (wC (.int 2))) (wVar 3))))) (wRet (wC (.bl false))) (wNext)) <|
  wSeq (wSet 6 (wFz (wCall [.F, .F, .F, .F] (W__law_fast A) [] (wCons (wVar 0) (wCons (wOp oIx (wVar 5) (wC (.int 0))) (wCons (wOp (oI0 fun i j => i - j) (wVar 2) (wVar 3)) (wCons (wC (.int 50)) (wNil)))))))) <|
  wSeq (wIfS (wOr (wT (wOp oEqX (wVar 6) (wC (.str "too long")))) (wT (wOp oIsN (wVar 6) (wC .non)))) (wRet (wC (.bl false))) (wNext)) <|
  wSeq (wIfS (wNot (wT (wCall [.F, .F] (W__law_same A 6) [] (wCons (wTup (wCons (wOp oIx (wVar 6) (wC (.int 0))) (wCons (wOp oAdd (wOp oIx (wVar 5) (wC (.int 1))) (wOp oIx (wVar 6) (wC (.int 1)))) (wCons (wOp oAdd (wOp oIx (wVar 5) (wC (.int 2))) (wOp oIx (wVar 6) (wC (.int 2)))) (wNil))))) (wCons (wSl (wVar 4) (wNo) (wSo (wC (.int 3)))) (wNil)))))) (wRet (wC (.bl false))) (wNext)) <|
  wRet (wOp oIn (wOp oAdd (wOp oIx (wVar 5) (wC (.int 3))) (wOp oIx (wVar 6) (wC (.int 3)))) (wTup (wCons (wOp oIx (wVar 4) (wC (.int 3))) (wCons (wOp oAdd (wOp oIx (wVar 4) (wC (.int 3))) (wC (.int 1))) (wNil)))))

def w__law_round (A : Cs) : DS :=
  wSeq (wSet 2 (wFz (wCall [.F, .P (.L .F)] (W__law_machine_by A) [] (wCons (wVar 0) (wCons (wVar 1) (wNil)))))) <|
  wSeq (wSet 3 (wFz (wMake A.C_Machine 1 [.F] (W_Machine_init A) [] (wCons (wVar 2) (wNil))))) <|
  wSeq (wSet 4 (wFz (wCB oLen (wCons (wOp oIx (wVar 2) (wC (.int 0))) (wNil))))) <|
  wSeq (wSet 5 (wFz (wOp (oI (fun _ j => 0 < j) fun i j => i % j) (wCall [.F, .P (.L .F)] (W__law_next A) [] (wCons (wVar 0) (wCons (wVar 1) (wNil)))) (wCB oLen (wCons (wVar 2) (wNil)))))) <|
  wSeq (wSet 6 (wFz (wTup (wCons (wVar 5) (wCons (wCall [.F, .P (.L .F), .F] (W__law_great_row A) [] (wCons (wVar 0) (wCons (wVar 1) (wCons (wVar 4) (wNil))))) (wCons (wCall [.F, .P (.L .F), .F] (W__law_great_row A) [] (wCons (wVar 0) (wCons (wVar 1) (wCons (wVar 4) (wNil))))) (wNil))))))) <|
  wSeq (wSet 7 (wFz (wCall [.F, .P (.L .F)] (W__law_next A) [] (wCons (wVar 0) (wCons (wVar 1) (wNil)))))) <|
  wSeq (wSet 8 (wFz (wCall [.F, .P (.L .F)] (W__law_far A) [] (wCons (wVar 0) (wCons (wVar 1) (wNil)))))) <|
  wSeq (wIfS (wT (wOp oEqX (wOp (oI (fun _ j => 0 < j) fun i j => i % j) (wVar 7) (wC (.int 4))) (wC (.int 0)))) (wSet 8 (wFz (wOp (oI (fun _ j => 0 < j) fun i j => i % j) (wOp (oI CDiv fun i j => i / j) (wVar 7) (wC (.int 4))) (wC (.int 30))))) (wNext)) <|
  wSeq (wSet 9 (wFz (wOp (oI (fun _ j => 0 < j) fun i j => i % j) (wOp (oI CDiv fun i j => i / j) (wVar 7) (wC (.int 120))) (wC (.int 41))))) <|
  wSeq (wSet 10 (wFz (wCall [.F, .F, .F, .F] (W__law_leaps A) [] (wCons (wVar 2) (wCons (wVar 6) (wCons (wVar 8) (wCons (wVar 9) (wNil)))))))) <|
  wSeq (wSet 11 (wFz (wCall [.F, .F, .F, .F] (W__law_fast A) [] (wCons (wVar 3) (wCons (wVar 6) (wCons (wVar 8) (wCons (wVar 9) (wNil)))))))) <|
  wSeq (wIfS (wT (wOp oIsN (wVar 10) (wC .non))) (wRet (wOp oEqX (wVar 11) (wC (.str "too long")))) (wNext)) <|
  wSeq (wIfS (wNot (wT (wCall [.F, .F] (W__law_same A 6) [] (wCons (wVar 11) (wCons (wVar 10) (wNil)))))) (wRet (wC (.bl false))) (wNext)) <|
  wRet (wCall [.F, .F, .F, .F, .F] (W__law_split A) [] (wCons (wVar 3) (wCons (wVar 6) (wCons (wVar 8) (wCons (wOp (oI (fun _ j => 0 < j) fun i j => i % j) (wCall [.F, .P (.L .F)] (W__law_far A) [] (wCons (wVar 0) (wCons (wVar 1) (wNil)))) (wOp oAdd (wVar 8) (wC (.int 1)))) (wCons (wVar 10) (wNil)))))))

end My

namespace My
open PySem PySem.Spec PyProof.Rows L2 VL
def w_marks_along (A : Cs) : DS :=
  wSeq (wSet 3 (wLst (wNil))) <|
  wSeq (wSet 4 (wFz (wVar 1))) <|
  wSeq (wFor (wIt (wVar 0)) (wgTup 2 (wgCons (wgN 5) (wgCons (wgN 6) (wgNil)))) (wSeq (wIfS (wT (wOp oNe (wVar 5) (wC (.int 0)))) (wDrop (wMut mExt (wVar 3) (wCons (wLc (wRng1 (wCons (wVar 6) (wNil))) (wgN 7) (wYes) (wTup (wCons (wOp oAdd (wVar 4) (wOp oMul (wVar 2) (wVar 7))) (wCons (wVar 5) (wNil)))) [7] []) (wNil)))) (wNext)) <|
  wAug 4 (oI0 fun i j => i + j) (wOp oMul (wVar 2) (wVar 6)))) <|
  wRet (wMov 3)

def w_shot_of (A : Cs) : DS :=
  wSeq (wDrop (wCall [.F] (W_ask_stretches A) [] (wCons (wVar 0) (wNil)))) <|
  wSeq (wAsg (wVar 0) (wgTup 3 (wgCons (wgN 2) (wgCons (wgN 3) (wgCons (wgN 4) (wgNil)))))) <|
  wSeq (wSet 5 (wFz (wCall [.F, .F, .F] (W_marks_along A) [] (wCons (wVar 3) (wCons (wOp (oI0 fun i j => i - j) (wVar 1) (wC (.int 1))) (wCons (wUn oNeg (wC (.int 1))) (wNil))))))) <|
  wRet (wTup (wCons (wVar 2) (wCons (wVar 1) (wCons (wCB oTuple (wCons (wOp oAdd (wUn oLRev (wVar 5)) (wCall [.F, .F, .F] (W_marks_along A) [] (wCons (wVar 4) (wCons (wVar 1) (wCons (wC (.int 1)) (wNil)))))) (wNil))) (wNil)))))

def w_fast_after (A : Cs) : DS :=
  wSeq (wAsg (wCall [.F, .F, .F, .F] (W_fast_from A) [] (wCons (wVar 0) (wCons (wTup (wCons (wC (.int 0)) (wCons (wLst (wNil)) (wCons (wLst (wNil)) (wNil))))) (wCons (wVar 1) (wCons (wVar 2) (wNil)))))) (wgTup 4 (wgCons (wgN 3) (wgCons (wgN 4) (wgCons (wgN 5) (wgCons (wgN 6) (wgNil))))))) <|
  wRet (wTup (wCons (wCall [.F, .F] (W_shot_of A) [] (wCons (wVar 3) (wCons (wVar 4) (wNil)))) (wCons (wVar 5) (wNil))))

def w__law_after (A : Cs) : DS :=
  wSeq (wSet 3 (wFz (wC .non))) <|
  wSeq (wTryO A.C_TooLong (wSet 3 (wFz (wCall [.F, .F, .F] (W_fast_after A) [] (wCons (wVar 0) (wCons (wVar 1) (wCons (wVar 2) (wNil))))))) (wSet 3 (wFz (wC (.str "too long"))))) <|
  wRet (wVar 3)

def w__law_read (A : Cs) : DS :=
  wRet (wTup (wCons (wOp oIx (wVar 0) (wC (.int 0))) (wCons (wGet (wOp oIx (wVar 0) (wC (.int 2))) (wCons (wOp oIx (wVar 0) (wC (.int 1))) (wCons (wC (.int 0)) (wNil)))) (wNil))))

def w__law_cut_leaps (A : Cs) : DS :=
  wSeq (wSet 1 (wFz (wC (.int 0)))) <|
  wSeq (wFor (wRng1 (wCons (wOp (oI0 fun i j => i - j) (wCB oLen (wCons (wVar 0) (wNil))) (wC (.int 1))) (wNil))) (wgN 2) (wIfS (wOr (wT (wOp oEqX (wVar 2) (wC (.int 0)))) (wT (wOp oNeX (wCall [.F] (W__law_read A) [] (wCons (wOp oIx (wVar 0) (wVar 2)) (wNil))) (wCall [.F] (W__law_read A) [] (wCons (wOp oIx (wVar 0) (wOp (oI0 fun i j => i - j) (wVar 2) (wC (.int 1)))) (wNil)))))) (wSet 1 (wFz (wOp oAdd (wVar 1) (wC (.int 1))))) (wNext))) <|
  wRet (wVar 1)

end My

namespace My
open PySem PySem.Spec PyProof.Rows L2 VL
def w__law_seen (A : Cs) : DS :=
  wSeq (wAsg (wVar 0) (wgTup 3 (wgCons (wgN 1) (wgCons (wgN 2) (wgCons (wgN 3) (wgNil)))))) <|
  wSeq (wSet 4 (wTupO (wConsN (wLst (wNil)) (wConsN (wLst (wNil)) (wNilN))))) <|
  wSeq (wFor (wIt (wTup (wCons (wTup (wCons (wC (.int 0)) (wCons (wUn oNeg (wC (.int 1))) (wNil)))) (wCons (wTup (wCons (wC (.int 1)) (wCons (wC (.int 1)) (wNil)))) (wNil))))) (wgTup 2 (wgCons (wgN 5) (wgCons (wgN 6) (wgNil)))) (wSeq (wSet 8 (wFz (wLc (wIt (wCB oSorted (wCons (wCB oList (wCons (wVar 3) (wNil))) (wNil)))) (wgN 7) (wT (wOp oEqX (wOp (oB0 fun i j => decide (i < j)) (wVar 7) (wVar 2)) (wOp oEqX (wVar 5) (wC (.int 0))))) (wOp oAdd (wOp (oI0 fun i j => i - j) (wOp oMul (wOp (oI0 fun i j => i - j) (wVar 7) (wVar 2)) (wVar 6)) (wC (.int 1))) (wVar 5)) [7] []))) <|
  wSeq (wSet 9 (wFz (wUn oNeg (wC (.int 1))))) <|
  wFor (wIt (wCB oSorted (wCons (wVar 8) (wNil)))) (wgN 10) (wSeq (wSet 11 (wFz (wOp oIx (wVar 3) (wOp oAdd (wVar 2) (wOp oMul (wVar 6) (wOp (oI0 fun i j => i - j) (wOp oAdd (wVar 10) (wC (.int 1))) (wVar 5))))))) <|
  wSeq (wIfS (wT (wOp (oB0 fun i j => decide (j < i)) (wVar 10) (wOp oAdd (wVar 9) (wC (.int 1))))) (wDrop (wMut mApp (wOp oIx (wVar 4) (wVar 5)) (wCons (wTup (wCons (wC (.int 0)) (wCons (wOp (oI0 fun i j => i - j) (wOp (oI0 fun i j => i - j) (wVar 10) (wVar 9)) (wC (.int 1))) (wNil)))) (wNil)))) (wNext)) <|
  wSeq (wIfS (wAnd (wT (wOp oEqX (wVar 10) (wOp oAdd (wVar 9) (wC (.int 1))))) (wAnd (wT (wOp (oB0 fun i j => decide (j < i)) (wCB oLen (wCons (wOp oIx (wVar 4) (wVar 5)) (wNil))) (wC (.int 0)))) (wT (wOp oEqX (wOp oIx (wOp oIx (wOp oIx (wVar 4) (wVar 5)) (wUn oNeg (wC (.int 1)))) (wC (.int 0))) (wVar 11))))) (wSub (wTup (wCons (wVar 11) (wCons (wOp oAdd (wOp oIx (wOp oIx (wOp oIx (wVar 4) (wVar 5)) (wUn oNeg (wC (.int 1)))) (wC (.int 1))) (wC (.int 1))) (wNil)))) (wOp oIx (wVar 4) (wVar 5)) (wUn oNeg (wC (.int 1)))) (wDrop (wMut mApp (wOp oIx (wVar 4) (wVar 5)) (wCons (wTup (wCons (wVar 11) (wCons (wC (.int 1)) (wNil)))) (wNil))))) <|
  wSet 9 (wFz (wVar 10))))) <|
  wRet (wTup (wCons (wVar 1) (wCons (wOp oIx (wFrz 4) (wC (.int 0))) (wCons (wOp oIx (wFrz 4) (wC (.int 1))) (wNil)))))

def w__law_walk (A : Cs) : DS :=
  wSeq (wAsgO [3, 4, 5] (wMov 1)) <|
  wSeq (wSet 6 (wFz (wC (.int 0)))) <|
  wSeq (wWhile (wT (wOp (oB0 fun i j => decide (i < j)) (wVar 6) (wVar 2))) (wSeq (wSet 7 (wFz (wOp oIx (wOp oIx (wVar 0) (wVar 3)) (wGet (wVar 5) (wCons (wVar 4) (wCons (wC (.int 0)) (wNil))))))) <|
  wSeq (wIfS (wT (wOp oIsN (wVar 7) (wC .non))) (wRet (wTupO (wConsN (wTupO (wConsN (wVar 3) (wConsN (wVar 4) (wConsN (wMov 5) (wNilN))))) (wConsN (wVar 6) (wNilN))))) (wNext)) <|
  wSeq (wSub (wOp oIx (wVar 7) (wC (.int 0))) (wVar 5) (wVar 4)) <|
  wSeq (wIfS (wT (wOp oEq (wOp oIx (wVar 7) (wC (.int 0))) (wC (.int 0)))) (wDrop (wPopD (wVar 5) (wCons (wVar 4) (wNil)))) (wNext)) <|
  wSeq (wSet 4 (wFz (wIf (wT (wOp oEq (wOp oIx (wVar 7) (wC (.int 1))) (wC (.str "r")))) (wOp oAdd (wVar 4) (wC (.int 1))) (wOp (oI0 fun i j => i - j) (wVar 4) (wC (.int 1)))))) <|
  wSeq (wSet 3 (wFz (wOp oIx (wVar 7) (wC (.int 2))))) <|
  wSet 6 (wFz (wOp oAdd (wVar 6) (wC (.int 1)))))) <|
  wRet (wTupO (wConsN (wTupO (wConsN (wVar 3) (wConsN (wVar 4) (wConsN (wMov 5) (wNilN))))) (wConsN (wVar 6) (wNilN))))

def w__law_great_end (A : Cs) : DS :=
  wSeq (wSet 4 (wFz (wCall [.F, .F, .F, .F] (W__law_fast A) [] (wCons (wVar 0) (wCons (wVar 1) (wCons (wVar 2) (wCons (wC (.int 300)) (wNil)))))))) <|
  wSeq (wIfS (wT (wOp oEqX (wVar 4) (wC (.str "too long")))) (wRet (wC (.bl true))) (wNext)) <|
  wSeq (wSet 5 (wFz (wCall [.F, .F, .F, .F] (W__law_fast A) [] (wCons (wVar 0) (wCons (wVar 1) (wCons (wVar 3) (wCons (wC (.int 301)) (wNil)))))))) <|
  wSeq (wIfS (wOr (wT (wOp oEqX (wVar 5) (wC (.str "too long")))) (wT (wOp oIsN (wVar 5) (wC .non)))) (wRet (wC (.bl false))) (wNext)) <|
  wSeq (wSet 6 (wFz (wCall [.F, .F, .F, .F] (W__law_fast A) [] (wCons (wVar 0) (wCons (wOp oIx (wVar 5) (wC (.int 0))) (wCons (wOp (oI0 fun i j => i - j) (wVar 2) (wVar 3)) (wCons (wC (.int 301)) (wNil)))))))) <|
  wSeq (wIfS (wOr (wT (wOp oEqX (wVar 6) (wC (.str "too long")))) (wT (wOp oIsN (wVar 6) (wC .non)))) (wRet (wC (.bl false))) (wNext)) <|
  wRet (wCall [.F, .F] (W__law_same A 6) [] (wCons (wTup (wCons (wOp oIx (wVar 6) (wC (.int 0))) (wCons (wOp oAdd (wOp oIx (wVar 5) (wC (.int 1))) (wOp oIx (wVar 6) (wC (.int 1)))) (wCons (wOp oAdd (wOp oIx (wVar 5) (wC (.int 2))) (wOp oIx (wVar 6) (wC (.int 2)))) (wNil))))) (wCons (wSl (wVar 4) (wNo) (wSo (wC (.int 3)))) (wNil))))

def w__law_stretch (A : Cs) : DS :=
  wSeq (wSet 5 (wFz (wOp oIx (wVar 2) (wC (.int 1))))) <|
  wSeq (wAsgO [2, 6] (wCallN [.F, .T [.F, .F, .K], .F] (W__law_walk A) (wConsN (wVar 1) (wConsN (wMov 2) (wConsN (wVar 4) (wNilN)))))) <|
  wSeq (wSet 7 (wFz (wCall [.F, .F, .F, .F] (W__law_fast A) [] (wCons (wVar 0) (wCons (wVar 3) (wCons (wVar 4) (wCons (wVar 4) (wNil)))))))) <|
  wSeq (wIfS (wOr (wT (wOp oEqX (wVar 7) (wC (.str "too long")))) (wNot (wT (wCall [.F, .F] (W__law_same A 6) [] (wCons (wSl (wVar 7) (wNo) (wSo (wC (.int 3)))) (wCons (wTup (wCons (wLendD 2 (wCall [.F] (W__law_seen A) [] (wCons (wVar 2) (wNil)))) (wCons (wOp (oI0 fun i j => i - j) (wOp oIx (wVar 2) (wC (.int 1))) (wVar 5)) (wCons (wVar 6) (wNil))))) (wNil))))))) (wRet (wC .non)) (wNext)) <|
  wSeq (wIfS (wNot (wT (wChain (oB0 fun i j => decide (i ≤ j)) (oB0 fun i j => decide (i ≤ j)) (wC (.int 0)) (wOp oIx (wVar 7) (wC (.int 3))) (wVar 6)))) (wRet (wC .non)) (wNext)) <|
  wRet (wTupO (wConsN (wMov 2) (wConsN (wOp oIx (wVar 7) (wC (.int 0))) (wConsN (wVar 6) (wNilN)))))

def w_law (A : Cs) : DS :=
  wSeq (wSet 1 (wLst (wCons (wC (.int 0)) (wNil)))) <|
  wSeq (wSet 2 (wFz (wCall [.F, .P (.L .F)] (W__law_machine_by A) [] (wCons (wVar 0) (wCons (wVar 1) (wNil)))))) <|
  wSeq (wSet 3 (wFz (wMake A.C_Machine 1 [.F] (W_Machine_init A) [] (wCons (wVar 2) (wNil))))) <|
  wSeq (wSet 4 (wTupO (wConsN (wC (.int 0)) (wConsN (wC (.int 0)) (wConsN (wDic) (wNilN)))))) <|
  wSeq (wSet 5 (wFz (wTup (wCons (wC (.int 0)) (wCons (wLst (wNil)) (wCons (wLst (wNil)) (wNil))))))) <|
  wSeq (wSet 6 (wFz (wC (.int 0)))) <|
  wSeq (wFor (wEnum (wCons (wSl (wVar 0) (wNo) (wSo (wC (.int 63)))) (wNil))) (wgTup 2 (wgCons (wgN 7) (wgCons (wgN 8) (wgNil)))) (wSeq (wSet 9 (wFz (wCB oMin2 (wCons (wOp (oI (fun _ j => 0 < j) fun i j => i % j) (wOp oAdd (wOp (oI (fun _ j => 0 < j) fun i j => i % j) (wVar 8) (wC (.int 97))) (wCall [.F, .P (.L .F)] (W__law_next A) [] (wCons (wVar 0) (wCons (wVar 1) (wNil))))) (wC (.int 18))) (wCons (wOp (oI0 fun i j => i - j) (wC (.int 300)) (wVar 6)) (wNil)))))) <|
  wSeq (wSet 10 (wCallN [.F, .F, .T [.F, .F, .K], .F, .F] (W__law_stretch A) (wConsN (wVar 3) (wConsN (wVar 2) (wConsN (wMov 4) (wConsN (wVar 5) (wConsN (wVar 9) (wNilN)))))))) <|
  wSeq (wIfS (wT (wOp oIsN (wVar 10) (wC .non))) (wRet (wC (.bl false))) (wNext)) <|
  wSeq (wPart 10 4 5 6) <|
  wIfS (wAnd (wT (wOp oEq (wOp (oI (fun _ j => 0 < j) fun i j => i % j) (wVar 7) (wC (.int 16))) (wC (.int 3)))) (wNot (wT (wCall [.F, .F] (W__law_same A 6) [] (wCons (wCall [.F, .F, .F] (W_fast_after A) [.int 5000] (wCons (wVar 3) (wCons (wVar 6) (wNil)))) (wCons (wTup (wCons (wLendD 4 (wCall [.F] (W__law_shot A) [] (wCons (wVar 4) (wNil)))) (wCons (wVar 6) (wNil)))) (wNil))))))) (wRet (wC (.bl false))) (wNext))) <|
  wSeq (wSet 11 (wFz (wCall [.F, .P (.L .F)] (W__law_far A) [] (wCons (wVar 0) (wCons (wVar 1) (wNil)))))) <|
  wRet (wCall [.F, .F, .F, .F] (W__law_great_end A) [] (wCons (wVar 3) (wCons (wVar 5) (wCons (wVar 11) (wCons (wOp (oI (fun _ j => 0 < j) fun i j => i % j) (wCall [.F, .P (.L .F)] (W__law_far A) [] (wCons (wVar 0) (wCons (wVar 1) (wNil)))) (wOp oAdd (wVar 11) (wC (.int 1)))) (wNil))))))

end My

namespace My
open PySem PySem.Spec PyProof.Rows L2 VL
theorem d_is_number (A : Cs) (ds : List D) (P : Pf) (h : W_is_number A ds P) : w_is_number A (endsOf [.F, .F] ds P) (zr [.F, .F] ds ++ List.replicate 0 none) := by
  obtain ⟨d, n, rfl, hd, h⟩ := h
  unfold w_is_number
  cases d with
  | int x =>
    simp [numB] at h ⊢
    by_cases c : 0 ≤ x
    · simp [c] at h ⊢
      exact h
    · simp [c] at h ⊢
      exact h
  | bl b => simpa [numB] using h
  | non => simpa [numB] using h
  | str s => simpa [numB] using h
  | tup xs => simpa [numB] using h
  | lst xs => simpa [numB] using h
  | dct xs => simp [plB] at hd
  | obj C xs => simp [plB] at hd
  | scr xs => simp [plB] at hd
  | exc xs => simp [plB] at hd
  | ndc xs => simp [plB] at hd
theorem d_entry_kept (A : Cs) (ds : List D) (P : Pf) (h : W_entry_kept A ds P) : w_entry_kept A (endsOf [.F, .F, .F] ds P) (zr [.F, .F, .F] ds ++ List.replicate 3 none) := by
  obtain ⟨e, st, sg, rfl, he, h⟩ := h
  unfold w_entry_kept
  cases e with
  | none =>
    simp [entD] at h ⊢
    exact h
  | some e =>
    obtain ⟨w, r, s⟩ := e
    obtain ⟨⟨h1, h2⟩, h3, h4⟩ := he
    simp [entD] at h ⊢
    simp [h1, h2, h3, h4]
    cases r <;> simpa [wayS] using h
theorem d_states_of (A : Cs) (ds : List D) (P : Pf) (h : W_states_of A ds P) : w_states_of A (endsOf [.F] ds P) (zr [.F] ds ++ List.replicate 0 none) := by
  obtain ⟨t, rfl, h⟩ := h
  unfold w_states_of
  simp [machD, tabT] at h ⊢
  exact h
theorem d_signs_of (A : Cs) (ds : List D) (P : Pf) (h : W_signs_of A ds P) : w_signs_of A (endsOf [.F] ds P) (zr [.F] ds ++ List.replicate 0 none) := by
  obtain ⟨t, st, sg, rfl, ht, h⟩ := h
  unfold w_signs_of
  have e := atI_row (g := rowT) ht (q := 0) (by omega) (by have := ht.st0; omega)
  have l := row_len ht (q := 0) (by omega) (by have := ht.st0; omega)
  simp [machD, tabT, e, rowT, l] at h ⊢
  exact h
end My

namespace My
open PySem PySem.Spec PyProof.Rows L2 VL
theorem fmod_bound (m : Int) : 0 ≤ m % 2147483647 ∧ m % 2147483647 < 2147483647 := ⟨Int.emod_nonneg _ (by decide), Int.emod_lt_of_pos _ (by decide)⟩
theorem cmul_l {a b : Int} (h1 : 0 ≤ a) (h2 : a < 18446744073709551616) : CMul a b := .inl ⟨by omega, by omega⟩
theorem cmul_r {a b : Int} (h1 : 0 ≤ b) (h2 : b < 18446744073709551616) : CMul a b := .inr ⟨by omega, by omega⟩
theorem d__law_next (A : Cs) (ds : List D) (P : Pf) (h : W__law_next A ds P) : w__law_next A (endsOf [.F, .P (.L .F)] ds P) (zr [.F, .P (.L .F)] ds ++ List.replicate 2 none) := by
  unfold W__law_next at h
  split at h
  · rename_i ns a
    obtain ⟨⟨h0, h1⟩, h⟩ := h
    unfold w__law_next
    have fin : ∀ v : Int, P.ok (.fz, .int (v % 2147483647 * (v % 2147483647) % 1999999973)) [.scr ns, .lst [.int (a + 1)]] := fun v => h _ (Int.emod_nonneg _ (by decide)) (Int.emod_lt_of_pos _ (by decide))
    have c1 : CMul (a + 1) (a + 1) := cmul_l (by omega) (by omega)
    have c2 : ∀ x : Int, CMul x 7919 := fun x => cmul_r (by decide) (by decide)
    have c3 : ∀ x : Int, CMul x 48271 := fun x => cmul_r (by decide) (by decide)
    have c4 : ∀ x : Int, CMul (x % 2147483647) (x % 2147483647) := fun x => cmul_l (fmod_bound x).1 (by have := (fmod_bound x).2; omega)
    simp [c1, c2, c3, c4, fin]
    intro hn
    have e := atI_of (xs := ns) (i := (a + 1) % (ns.length : Int)) (Int.emod_nonneg _ (by omega)) (Int.emod_lt_of_pos _ (by omega))
    have hlt : ((a + 1) % (ns.length : Int)).toNat < ns.length := by
      have := Int.emod_lt_of_pos (a + 1) (b := (ns.length : Int)) (by omega)
      have := Int.emod_nonneg (a + 1) (b := (ns.length : Int)) (by omega)
      omega
    rw [e, List.getElem?_eq_getElem hlt]
    simp [fin]
    exact hn
  · exact h.elim
theorem lr_at (m : Int) : ∃ r : Bool, L2.atI (Str.ofString "lr").cps.toList (m % 2) = some (if r then 114 else 108) ∧ (⟨#[if r then 114 else 108]⟩ : Str) = wayS r := by
  have e : (Str.ofString "lr").cps.toList = [108, 114] := by decide +kernel
  have hm : m % 2 = 0 ∨ m % 2 = 1 := by omega
  rcases hm with h | h
  · refine ⟨false, ?_, by decide +kernel⟩
    rw [e, h]
    rfl
  · refine ⟨true, ?_, by decide +kernel⟩
    rw [e, h]
    rfl
theorem lr_len : (Str.ofString "lr").length = 2 := by decide +kernel
theorem d__law_table (A : Cs) (ds : List D) (P : Pf) (h : W__law_table A ds P) : w__law_table A (endsOf [.F, .P (.L .F), .F, .F] ds P) (zr [.F, .P (.L .F), .F, .F] ds ++ List.replicate 6 none) := by
  obtain ⟨ns, a, st, sg, rfl, ha, hst, hsg, h⟩ := h
  unfold w__law_table
  simp
  refine ⟨⟨by omega, by omega⟩, ?_⟩
  refine for_inv (fun i r => ∃ (t : Tab) (a' : Int) (k l j m e : Option D), r = [some (.F, .scr ns), some (.P (.L .F), .lst [.int a']), some (.F, .int st), some (.F, .int sg), some (.L (.L .F), tabL t), fr k, fr l, fr j, fr m, fr e] ∧ t.length = i ∧ (∀ r ∈ t, r.length = sg ∧ ∀ e ∈ r, EntOk st sg e) ∧ a ≤ a' ∧ a' ≤ a + i * 100) ⟨[], a, none, none, none, none, none, rfl, rfl, by simp, by omega, by omega⟩ ?_ ?_
  · rintro r ⟨t, a', k, l, j, m, e, rfl, hl, hr, h1, h2⟩
    rw [rangeD_len] at hl h2
    simp
    exact h t a' ⟨by omega, by omega, by omega, by omega, by omega, hr⟩ h1 (by omega)
  · rintro i d r hd ⟨t, a', k, l, j, m, e, rfl, hl, hr, h1, h2⟩
    obtain ⟨hi, rfl⟩ := rangeD_get hd
    simp
    refine ⟨⟨by omega, by omega⟩, ?_⟩
    refine for_inv (fun i' r => ∃ (row : List Ent) (a'' : Int) (j m e : Option D), r = [some (.F, .scr ns), some (.P (.L .F), .lst [.int a'']), some (.F, .int st), some (.F, .int sg), some (.L (.L .F), tabL t), some (.F, .int i), some (.L .F, rowL row), fr j, fr m, fr e] ∧ row.length = i' ∧ (∀ e ∈ row, EntOk st sg e) ∧ a ≤ a'' ∧ a'' ≤ a + i * 100 + i') ⟨[], a', j, m, e, by simp [rowL], rfl, by simp, h1, by omega⟩ ?_ ?_
    · rintro r ⟨row, a'', j, m, e, rfl, hl', hr', h1', h2'⟩
      rw [rangeD_len] at hl' h2'
      simp [tabL, rowL]
      refine ⟨by omega, t ++ [row], a'', ⟨rfl, by simp [rowL]⟩, by simp; omega, ?_, by omega, by omega⟩
      intro r hr2
      rcases List.mem_append.mp hr2 with q | q
      · exact hr r q
      · simp at q
        subst q
        exact ⟨hl', hr'⟩
    · rintro i' d r hd ⟨row, a'', j, m, e, rfl, hl', hr', h1', h2'⟩
      obtain ⟨hi', rfl⟩ := rangeD_get hd
      simp [lr_len, rowL]
      refine ⟨⟨by omega, by omega⟩, fun m hm0 hm1 => ⟨⟨by omega, by omega⟩, by omega, ⟨by omega, by omega⟩, ?_⟩⟩
      obtain ⟨r, er, ew⟩ := lr_at (m / 100)
      rw [er]
      simp [ew]
      refine ⟨⟨by omega, by omega⟩, by omega, ?_⟩
      by_cases c : m % 9 = 0
      · rw [if_pos c]
        refine ⟨by omega, row ++ [none], a'' + 1, ⟨rfl, by simp [entD]⟩, by simp; omega, ?_, by omega, by omega⟩
        intro e he
        rcases List.mem_append.mp he with q | q
        · exact hr' e q
        · simp at q
          subst q
          trivial
      · rw [if_neg c]
        refine ⟨by omega, row ++ [some (m / 9 % sg, r, m / 300 % st)], a'' + 1, ⟨rfl, by simp [entD]⟩, by simp; omega, ?_, by omega, by omega⟩
        intro e he
        rcases List.mem_append.mp he with q | q
        · exact hr' e q
        · simp at q
          subst q
          exact ⟨⟨Int.emod_nonneg _ (by omega), Int.emod_lt_of_pos _ (by omega)⟩, Int.emod_nonneg _ (by omega), Int.emod_lt_of_pos _ (by omega)⟩
theorem d_Machine_init (A : Cs) (ds : List D) (P : Pf) (h : W_Machine_init A ds P) : w_Machine_init A (endsOf (mkMs [.F] 1) ds P) (zr (mkMs [] 1) ds ++ List.replicate 5 none) := by
  obtain ⟨t, st, sg, C, rfl, ht, h⟩ := h
  unfold w_Machine_init
  have hst := ht.st0
  have e := atI_row (g := rowL) ht (q := 0) (by omega) (by omega)
  have l := row_len ht (q := 0) (by omega) (by omega)
  have hl := ht.len
  have hl0 : ¬ t.length = 0 := by omega
  have hsg : ¬ sg = 0 := by have := ht.sg0; omega
  simp [mkMs, tabL, e, rowL, l]
  refine ⟨by intro z; subst z; simp at hl0, hsg, ?_⟩
  refine for_inv (fun i r => ∃ a b : Option D, r = [some (.P (.O []), .obj A.C_Machine []), some (.F, tabL t), some (.F, .int t.length), some (.F, .int sg), some (.L .F, .lst ((t.take i).map rowT)), fr a, fr b]) ⟨none, none, rfl⟩ ?_ ?_
  · rintro r ⟨a, b, rfl⟩
    have e9 : (t.take (List.map rowL t).length).map rowT = t.map rowT := by rw [List.length_map, List.take_length]
    rw [e9]
    simp
    exact h
  · rintro i d r hd ⟨a, b, rfl⟩
    rw [List.getElem?_map] at hd
    cases em : t[i]? with
    | none => rw [em] at hd; simp at hd
    | some row =>
      rw [em] at hd
      simp at hd
      subst hd
      have hi := (List.getElem?_eq_some_iff.mp em).1
      have hr := ht.row row (List.mem_of_getElem? em)
      have et : t.take (i + 1) = t.take i ++ [row] := by rw [List.take_add_one, em]; rfl
      have hS := ht.stS
      have hG := ht.sgS
      simp [rowL, hr.1]
      refine lc_map id ?_ ?_
      · simp [et, rowT]
        refine ⟨by omega, ?_⟩
        rw [← List.map_take, ← List.map_take, et]
        simp [rowT]
      · intro d hd acc ha
        obtain ⟨en, hen, rfl⟩ := List.mem_map.mp hd
        rw [List.length_map, hr.1] at ha
        simp
        unfold W_entry_kept
        refine ⟨en, st, sg, by rw [hl], hr.2 en hen, ?_⟩
        simp
        omega
theorem d__law_shot (A : Cs) (ds : List D) (P : Pf) (h : W__law_shot A ds P) : w__law_shot A (endsOf [.F] ds P) (zr [.F] ds ++ List.replicate 4 none) := by
  obtain ⟨x, rfl, hn, hl, h⟩ := h
  unfold w__law_shot
  simp [cfD, cD, ints_keys] at h ⊢
  intro ns h1 h2
  refine lc_map (fun d => match d with | .int p => .tup [.int p, .int (cAt x.c p)] | _ => .non) ?_ ?_
  · have h3 := sortC_eq hn (sorted_keys hn h1 h2)
    unfold shotC at h
    rw [← h3] at h
    simp [shotD, marksD] at h ⊢
    refine cast ?_ h
    congr 3
  · intro d hd acc ha
    obtain ⟨p, hp, rfl⟩ := List.mem_map.mp hd
    have hp' := cGet_some (h1.mem_iff.mp hp)
    have hle := h1.length_eq
    rw [List.length_map] at ha hle
    have hle2 : x.c.length = ns.length := by simpa using hle.symm
    simp [valD_cK, hp']
    omega

theorem set_rowL {t : Tab} {k : Nat} {r : List Ent} : (t.map rowL).set k (rowL r) = (t.set k r).map rowL := (List.map_set).symm
theorem TabOk.set {t : Tab} {st sg : Nat} (h : TabOk t st sg) (k j : Nat) (e : Ent) (he : EntOk st sg e) : TabOk (t.set k ((rowAt t k).set j e)) st sg := by
  refine ⟨h.st0, h.sg0, h.stS, h.sgS, by rw [List.length_set]; exact h.len, fun r hr => ?_⟩
  by_cases hk : k < t.length
  · have hm : rowAt t k ∈ t := rowAt_mem h (q := (k : Int)) (by omega) (by have := h.len; omega)
    rcases List.mem_or_eq_of_mem_set hr with q | rfl
    · exact h.row r q
    · refine ⟨by rw [List.length_set]; exact (h.row _ hm).1, fun e' he' => ?_⟩
      rcases List.mem_or_eq_of_mem_set he' with q | rfl
      · exact (h.row _ hm).2 e' q
      · exact he
  · rw [List.set_eq_of_length_le (by omega)] at hr
    exact h.row r hr
theorem oix_tab {t : Tab} {st sg : Nat} (ht : TabOk t st sg) {i k : Nat} (hi : i < st) {p : List Nat} {q : Kd × D → Prop} : oIx (.bor k p (.L (.L .F)), tabL t) (.fz, .int i) q = q (.bor k (p ++ [i]) (.L .F), rowL (rowAt t i)) := by
  have h1 := rowAt_get ht (q := (i : Int)) (by omega) (by omega)
  have h2 : ixN (t.map rowL).length i = some i := by rw [ixN_of (by omega) (by rw [List.length_map, ht.len]; omega)]; simp
  have h3 : (t.map rowL)[i]? = some (rowL (rowAt t i)) := by
    rw [List.getElem?_map]
    simp at h1
    simp [h1]
  show optK (ixN (t.map rowL).length i) _ = _
  rw [h2]
  show optK (t.map rowL)[i]? _ = _
  rw [h3]
  rfl
theorem oix_row {t : Tab} {st sg : Nat} (ht : TabOk t st sg) {i j k : Nat} (hi : i < st) (hj : j < sg) {p : List Nat} {q : Kd × D → Prop} : oIx (.bor k p (.L .F), rowL (rowAt t i)) (.fz, .int j) q = q (.fz, entD (entAt t i j)) := by
  have h1 := entAt_get ht (q := (i : Int)) (s := (j : Int)) (by omega) (by omega) (by omega) (by omega)
  have hl := row_len ht (q := (i : Int)) (by omega) (by omega)
  have h2 : ixN ((rowAt t i).map entD).length j = some j := by rw [ixN_of (by omega) (by rw [List.length_map, hl]; omega)]; simp
  have h3 : ((rowAt t i).map entD)[j]? = some (entD (entAt t i j)) := by
    rw [List.getElem?_map]
    simp at h1
    simp [h1]
  show optK (ixN ((rowAt t i).map entD).length j) _ = _
  rw [h2]
  show optK ((rowAt t i).map entD)[j]? _ = _
  rw [h3]
  rfl
theorem sub_row {t : Tab} {st sg : Nat} (ht : TabOk t st sg) {i j k : Nat} (hi : i < st) (hj : j < sg) {p : List Nat} {w s : Int} {r : Bool} {q : Nat → List Nat → D → Prop} : subK (.bor k p (.L .F), rowL (rowAt t i)) (.fz, .int j) (.tup [.int w, .str (wayS r), .int s]) q = q k p (rowL ((rowAt t i).set j (some (w, r, s)))) := by
  have hl := row_len ht (q := (i : Int)) (by omega) (by omega)
  have h2 : ixN ((rowAt t i).map entD).length j = some j := by rw [ixN_of (by omega) (by rw [List.length_map, hl]; omega)]; simp
  show optK (ixN ((rowAt t i).map entD).length j) _ = _
  rw [h2]
  show q k p (.lst (((rowAt t i).map entD).set j (entD (some (w, r, s))))) = _
  rw [← List.map_set]
  rfl
theorem dset_tab {t : Tab} {i : Nat} {r : List Ent} : dSet (tabL t) [i] (rowL r) = tabL (t.set i r) := by
  unfold tabL
  rw [dSet_l, set_rowL]
theorem entAt_set {t : Tab} {st sg : Nat} (ht : TabOk t st sg) {i j : Nat} (hi : i < st) (hj : j < sg) {e : Ent} : entAt (t.set i ((rowAt t i).set j e)) i j = e := by
  have hl := row_len ht (q := (i : Int)) (by omega) (by omega)
  have ht2 : i < t.length := by rw [ht.len]; exact hi
  unfold entAt
  have e1 : rowAt (t.set i ((rowAt t i).set j e)) i = (rowAt t i).set j e := by
    show (t.set i _).getD (i : Int).toNat [] = _
    simp [List.getD, ht2]
  rw [e1]
  simp [List.getD, hl, hj]
def mb_in (A : Cs) : DS := (wSeq (wSet 2 (wFz (wCall [.F, .P (.L .F)] (W__law_next A) [] (wCons (wVar 0) (wCons (wVar 1) (wNil)))))) <|
  wSeq (wIfS (wAnd (wT (wOp oEq (wOp (oI (fun _ j => 0 < j) fun i j => i % j) (wVar 2) (wC (.int 3))) (wC (.int 0)))) (wT (wOp oNotN (wOp oIx (wOp oIx (wVar 5) (wVar 6)) (wVar 7)) (wC .non)))) (wSub (wTup (wCons (wOp oIx (wOp oIx (wOp oIx (wVar 5) (wVar 6)) (wVar 7)) (wC (.int 0))) (wCons (wOp oIx (wOp oIx (wOp oIx (wVar 5) (wVar 6)) (wVar 7)) (wC (.int 1))) (wCons (wVar 6) (wNil))))) (wOp oIx (wVar 5) (wVar 6)) (wVar 7)) (wNext)) <|
  wIfS (wAnd (wT (wOp (oB0 fun i j => decide (j < i)) (wOp (oI (fun _ j => 0 < j) fun i j => i % j) (wOp (oI CDiv fun i j => i / j) (wVar 2) (wC (.int 3))) (wC (.int 7))) (wC (.int 1)))) (wT (wOp oIsN (wOp oIx (wOp oIx (wVar 5) (wVar 6)) (wVar 7)) (wC .non)))) (wSub (wTup (wCons (wOp (oI (fun _ j => 0 < j) fun i j => i % j) (wOp (oI CDiv fun i j => i / j) (wVar 2) (wC (.int 30))) (wVar 4)) (wCons (wOp oIx (wC (.str "lr")) (wOp (oI (fun _ j => 0 < j) fun i j => i % j) (wOp (oI CDiv fun i j => i / j) (wVar 2) (wC (.int 300))) (wC (.int 2)))) (wCons (wOp (oI (fun _ j => 0 < j) fun i j => i % j) (wOp (oI CDiv fun i j => i / j) (wVar 2) (wC (.int 600))) (wVar 3)) (wNil))))) (wOp oIx (wVar 5) (wVar 6)) (wVar 7)) (wNext))
theorem mb_loop {A : Cs} {ns : List Int} {a : Int} {st sg : Nat} {t : Tab} {E : En} {m : Int} (ht : TabOk t st sg) (hst : st ≤ 5) (hsg : sg ≤ 8) (ha : 0 ≤ a ∧ a ≤ 850000000)
    (he : ∀ (t : Tab) (a' : Int) (r : Rho), TabOk t st sg → a ≤ a' → a' ≤ a + 40 → (∃ m x y, r = [some (.F, .scr ns), some (.P (.L .F), .lst [.int a']), some (.F, .int m), some (.F, .int st), some (.F, .int sg), some (.L (.L .F), tabL t), fr x, fr y]) → E.nx r) :
    wFor (wRng1 (wCons (wVar 3) (wNil))) (wgN 6) (wFor (wRng1 (wCons (wVar 4) (wNil))) (wgN 7) (mb_in A)) E [some (.F, .scr ns), some (.P (.L .F), .lst [.int a]), some (.F, .int m), some (.F, .int st), some (.F, .int sg), some (.L (.L .F), tabL t), none, none] := by
  unfold mb_in
  simp
  refine ⟨⟨by omega, by omega⟩, ?_⟩
  refine for_inv (fun i r => ∃ (t : Tab) (a' m : Int) (x y : Option D), r = [some (.F, .scr ns), some (.P (.L .F), .lst [.int a']), some (.F, .int m), some (.F, .int st), some (.F, .int sg), some (.L (.L .F), tabL t), fr x, fr y] ∧ TabOk t st sg ∧ a ≤ a' ∧ a' ≤ a + i * 8) ⟨t, a, m, none, none, rfl, ht, by omega, by omega⟩ ?_ ?_
  · rintro r ⟨t, a', m, x, y, rfl, ht, h1, h2⟩
    rw [rangeD_len] at h2
    exact he t a' _ ht h1 (by omega) ⟨m, x, y, rfl⟩
  · rintro i d r hd ⟨t, a', m, x, y, rfl, ht, h1, h2⟩
    obtain ⟨hi, rfl⟩ := rangeD_get hd
    simp
    refine ⟨⟨by omega, by omega⟩, ?_⟩
    refine for_inv (fun j r => ∃ (t : Tab) (a'' m : Int) (y : Option D), r = [some (.F, .scr ns), some (.P (.L .F), .lst [.int a'']), some (.F, .int m), some (.F, .int st), some (.F, .int sg), some (.L (.L .F), tabL t), some (.F, .int i), fr y] ∧ TabOk t st sg ∧ a ≤ a'' ∧ a'' ≤ a + i * 8 + j) ⟨t, a', m, y, by simp, ht, by omega, by omega⟩ ?_ ?_
    · rintro r ⟨t, a'', m, y, rfl, ht, h1', h2'⟩
      rw [rangeD_len] at h2'
      simp
      exact ⟨t, a'', ⟨rfl, rfl⟩, ht, by omega, by omega⟩
    · rintro j d r hd ⟨t, a'', m, y, rfl, ht, h1', h2'⟩
      obtain ⟨hj, rfl⟩ := rangeD_get hd
      simp
      refine ⟨⟨by omega, by omega⟩, fun m hm0 hm1 => ?_⟩
      have q1 := fun (q : Kd × D → Prop) => oix_tab ht hi (k := 5) (p := []) (q := q)
      have q2 := fun (q : Kd × D → Prop) => oix_row ht hi hj (k := 5) (p := [i]) (q := q)
      have c3 : ∀ m : Int, CDiv m 3 := fun m => ⟨by decide, by decide⟩
      cases hen : entAt t i j with
      | none =>
        have fin : ∀ r : Bool, TabOk (t.set i ((rowAt t i).set j (some (m / 30 % sg, r, m / 600 % st)))) st sg := fun r => ht.set i j _ ⟨⟨Int.emod_nonneg _ (by have := ht.sg0; omega), Int.emod_lt_of_pos _ (by have := ht.sg0; omega)⟩, Int.emod_nonneg _ (by have := ht.st0; omega), Int.emod_lt_of_pos _ (by have := ht.st0; omega)⟩
        simp [q1, q2, hen, entD, c3]
        split
        · refine ⟨⟨by decide, by decide⟩, by omega, ⟨by decide, by decide⟩, by simp [lr_len], ?_⟩
          obtain ⟨r, er, ew⟩ := lr_at (m / 300)
          rw [er]
          simp [ew, sub_row ht hi hj, dset_tab]
          exact ⟨⟨by decide, by decide⟩, by omega, _, _, ⟨rfl, rfl⟩, fin r, by omega, by omega⟩
        · exact ⟨_, _, ⟨rfl, rfl⟩, ht, by omega, by omega⟩
      | some en =>
        obtain ⟨w, r, s⟩ := en
        have he := ent_ok ht (q := (i : Int)) (s := (j : Int)) (by omega) (by omega) (by omega) (by omega)
        rw [hen] at he
        have ht' := ht.set i j (some (w, r, (i : Int))) ⟨he.1, by omega, by omega⟩
        have q1' := fun (q : Kd × D → Prop) => oix_tab ht' hi (k := 5) (p := []) (q := q)
        have q2' := fun (q : Kd × D → Prop) => oix_row ht' hi hj (k := 5) (p := [i]) (q := q)
        have hen' := entAt_set ht hi hj (e := some (w, r, (i : Int)))
        simp [q1, q2, hen, entD, c3, sub_row ht hi hj, dset_tab, q1', q2', hen']
        split
        · exact ⟨_, _, ⟨rfl, rfl⟩, ht', by omega, by omega⟩
        · exact ⟨_, _, ⟨rfl, rfl⟩, ht, by omega, by omega⟩
theorem d__law_machine_by (A : Cs) (ds : List D) (P : Pf) (h : W__law_machine_by A ds P) : w__law_machine_by A (endsOf [.F, .P (.L .F)] ds P) (zr [.F, .P (.L .F)] ds ++ List.replicate 6 none) := by
  obtain ⟨ns, a, rfl, ha, h⟩ := h
  unfold w__law_machine_by
  simp
  refine ⟨⟨by omega, by omega⟩, fun m hm0 hm1 => ?_⟩
  refine optK_all (by omega) (by simp; omega) fun d hd => ⟨⟨by decide, by decide⟩, optK_all (by omega) (by simp; omega) fun d' hd' => ⟨⟨by decide, by decide⟩, ?_⟩⟩
  have h1 : ∃ st : Nat, d = .int st ∧ 0 < st ∧ st ≤ 5 := by
    simp at hd
    rcases hd with rfl | rfl | rfl | rfl
    · exact ⟨1, rfl, by decide, by decide⟩
    · exact ⟨2, rfl, by decide, by decide⟩
    · exact ⟨3, rfl, by decide, by decide⟩
    · exact ⟨4, rfl, by decide, by decide⟩
  have h2 : ∃ sg : Nat, d' = .int sg ∧ 0 < sg ∧ sg ≤ 8 := by
    simp at hd'
    rcases hd' with rfl | rfl | rfl | rfl | rfl
    all_goals first
      | exact ⟨1, rfl, by decide, by decide⟩
      | exact ⟨2, rfl, by decide, by decide⟩
      | exact ⟨3, rfl, by decide, by decide⟩
      | exact ⟨4, rfl, by decide, by decide⟩
  obtain ⟨st, rfl, hs0, hs1⟩ := h1
  obtain ⟨sg, rfl, hg0, hg1⟩ := h2
  have key : ∀ (st sg : Nat) (r : Rho) (E : En), 0 < st → st ≤ 5 → 0 < sg → sg ≤ 8 → r = [some (.F, .scr ns), some (.P (.L .F), .lst [.int (a + 1)]), some (.F, .int m), some (.F, .int st), some (.F, .int sg), none, none, none] → E = endsOf [Md.F, Md.F.L.P] [D.scr ns, D.lst [D.int a]] P →
      wSeq (wSet 5 (wCall [.F, .P (.L .F), .F, .F] (W__law_table A) [] (wCons (wVar 0) (wCons (wVar 1) (wCons (wVar 3) (wCons (wVar 4) (wNil))))))) (wSeq (wFor (wRng1 (wCons (wVar 3) (wNil))) (wgN 6) (wFor (wRng1 (wCons (wVar 4) (wNil))) (wgN 7) (mb_in A))) (wRet (wMov 5))) E r := fun st sg r E hs0 hs1 hg0 hg1 er eE => by
    subst er
    subst eE
    simp [-wFor_eq]
    unfold W__law_table
    refine ⟨ns, a + 1, st, sg, rfl, ⟨by omega, by omega⟩, ⟨by omega, by omega⟩, ⟨by omega, by omega⟩, fun t a' ht g1 g2 => ?_⟩
    simp [-wFor_eq]
    refine mb_loop ht hs1 hg1 ⟨by omega, by omega⟩ fun t' a'' r ht' g1' g2' ⟨m', x, y, er⟩ => ?_
    subst er
    simp
    exact h t' st sg a'' ht' hs1 hg1 (by omega) (by omega)
  split
  · have z := key 5 8 _ _ (by decide) (by decide) (by decide) (by decide) rfl rfl
    simp [mb_in] at z
    exact z
  · have z := key st sg _ _ hs0 hs1 hg0 hg1 rfl rfl
    simp [mb_in] at z
    exact z
end My

namespace My
open PySem PySem.Spec PyProof.Rows L2 VL
theorem rev_c {x : Int × Int} {r : Row} : rowSD (x :: r).reverse = .lst (r.reverse.map celD ++ [celD x]) := by simp [rowSD]
theorem ixN_m1 {n : Nat} : L2.ixN (n + 1) (-1) = some n := by
  unfold L2.ixN
  simp
  omega
theorem get_end {r : Row} {x : D} : ((List.map celD r).reverse ++ [x])[r.length]? = some x := by
  rw [List.getElem?_append_right (by simp)]
  simp
theorem set_end {r : Row} {x y : D} : ((List.map celD r).reverse ++ [x]).set r.length y = (List.map celD r).reverse ++ [y] := by
  rw [List.set_append_right _ _ (by simp)]
  simp
theorem d_near_sign (A : Cs) (ds : List D) (P : Pf) (h : W_near_sign A ds P) : w_near_sign A (endsOf [.P (.L .F)] ds P) (zr [.P (.L .F)] ds ++ List.replicate 0 none) := by
  obtain ⟨row, rfl, hl, h⟩ := h
  unfold w_near_sign
  cases row with
  | nil =>
    simp [rowSD, nearS] at h ⊢
    exact h
  | cons x r =>
    obtain ⟨u, m⟩ := x
    rw [rev_c] at h ⊢
    have h2 : ¬ ((r.length : Int) + 1 = 0) := by omega
    simp [nearS, ixN_m1, get_end, set_end, celD, h2] at h ⊢
    exact h
theorem d_near_count (A : Cs) (ds : List D) (P : Pf) (h : W_near_count A ds P) : w_near_count A (endsOf [.P (.L .F), .F, .F] ds P) (zr [.P (.L .F), .F, .F] ds ++ List.replicate 0 none) := by
  obtain ⟨row, s, w, rfl, hl, h⟩ := h
  unfold w_near_count
  simp
  refine ⟨row, rfl, hl, ?_⟩
  cases row with
  | nil =>
    simp [rowSD, nearS, runS] at h ⊢
    by_cases c : s = 0
    · subst c
      simp at h ⊢
      exact h
    · have c2 : ¬ (0 = s) := fun e => c e.symm
      simp [c, c2] at h ⊢
      exact h
  | cons x r =>
    obtain ⟨u, m⟩ := x
    rw [rev_c] at h ⊢
    have h2 : ¬ ((r.length : Int) + 1 = 0) := by omega
    simp [nearS, runS, ixN_m1, get_end, set_end, celD, h2] at h ⊢
    by_cases c : u = s
    · simp [c] at h ⊢
      have e : (if m < w then m else w) = min w m := by
        split <;> omega
      rw [e]
      exact h
    · simp [c] at h ⊢
      exact h
theorem d_put (A : Cs) (ds : List D) (P : Pf) (h : W_put A ds P) : w_put A (endsOf [.P (.L .F), .F, .F] ds P) (zr [.P (.L .F), .F, .F] ds ++ List.replicate 0 none) := by
  obtain ⟨row, s, n, rfl, hl, h⟩ := h
  unfold w_put
  by_cases c0 : n = 0
  · simp [c0, putS] at h ⊢
    exact h
  · cases row with
    | nil =>
      by_cases c1 : s = 0
      · simp [c0, c1, putS, rowSD] at h ⊢
        exact h
      · simp [c0, c1, putS, rowSD, celD] at h ⊢
        exact h
    | cons x r =>
      obtain ⟨u, m⟩ := x
      have h2 : ¬ ((r.length : Int) + 1 = 0) := by omega
      have h3 : 0 < (r.length : Int) + 1 := by omega
      simp at hl
      by_cases c : u = s
      · have e : putS ((u, m) :: r) s n = (s, m + n) :: r := by simp [putS, c0, c]
        rw [e, rev_c] at h
        rw [rev_c]
        simp [c0, ixN_m1, get_end, set_end, celD, h2, h3, c] at h ⊢
        exact h
      · have e : putS ((u, m) :: r) s n = (s, n) :: (u, m) :: r := by simp [putS, c0, c]
        rw [e, rev_c] at h
        rw [rev_c]
        simp [c0, ixN_m1, get_end, set_end, celD, h2, h3, c] at h ⊢
        exact ⟨by omega, h⟩
theorem d_drop (A : Cs) (ds : List D) (P : Pf) (h : W_drop A ds P) : w_drop A (endsOf [.P (.L .F), .F] ds P) (zr [.P (.L .F), .F] ds ++ List.replicate 2 none) := by
  obtain ⟨row, n, rfl, hl, h⟩ := h
  unfold w_drop
  by_cases c0 : n = 0
  · simp [c0, cutS] at h ⊢
    exact h
  · cases row with
    | nil =>
      simp [c0, cutS_n, rowSD] at h ⊢
      exact h
    | cons x r =>
      obtain ⟨u, m⟩ := x
      have h2 : ¬ ((r.length : Int) + 1 = 0) := by omega
      have h3 : 0 < (r.length : Int) + 1 := by omega
      simp at hl
      have e : cutS ((u, m) :: r) n = if n < m then (u, m - n) :: r else r := by simp [cutS, c0]
      rw [e] at h
      rw [rev_c]
      simp [c0, celD, h2, h3] at h ⊢
      have pop : ∀ (q : List D → D → Prop), mPop ((List.map celD r).reverse ++ [D.tup [D.int u, D.int m]]) [] q = q (List.map celD r).reverse (.tup [.int u, .int m]) := fun q => by
        show optK ((List.map celD r).reverse ++ [D.tup [D.int u, D.int m]])[((List.map celD r).reverse ++ [D.tup [D.int u, D.int m]]).length - 1]? _ = _
        have e1 : ((List.map celD r).reverse ++ [D.tup [D.int u, D.int m]]).length - 1 = r.length := by simp
        rw [e1, get_end, List.dropLast_concat]
        rfl
      rw [pop]
      by_cases c : n < m
      · simp [c, celD, rowSD] at h ⊢
        exact ⟨by omega, h⟩
      · simp [c, rowSD] at h ⊢
        exact h
end My

namespace My
open PySem PySem.Spec PyProof.Rows L2 VL
theorem d_Ribbon_init (A : Cs) (ds : List D) (P : Pf) (h : W_Ribbon_init A ds P) : w_Ribbon_init A (endsOf (mkMs [.F, .F, .L .F, .L .F, .F] 2) ds P) (zr (mkMs [] 2) ds ++ List.replicate 0 none) := by
  obtain ⟨t, q, l, r, rfl, hl, h⟩ := h
  unfold w_Ribbon_init
  simp [mkMs, machD, stD, rowSD, rbD] at h ⊢
  exact h
theorem d_Ribbon_entry (A : Cs) (ds : List D) (P : Pf) (h : W_Ribbon_entry A ds P) : w_Ribbon_entry A (endsOf [.P (.O [.F, .F, .L .F, .L .F, .F])] ds P) (zr [.P (.O [.F, .F, .L .F, .L .F, .F])] ds ++ List.replicate 0 none) := by
  obtain ⟨t, st, sg, x, rfl, ht, hx, hl, h⟩ := h
  unfold w_Ribbon_entry
  have h0 := nearS_ok hx.r ht.sg0
  have e1 := atI_row (g := rowT) ht hx.q.1 hx.q.2
  have e2 := atI_ent ht hx.q.1 hx.q.2 h0.1 h0.2
  simp [rbD, tabT, e1, rowT]
  refine ⟨x.r, rfl, by omega, ?_⟩
  simp [e2]
  exact h
theorem d_Ribbon_told (A : Cs) (ds : List D) (P : Pf) (h : W_Ribbon_told A ds P) : w_Ribbon_told A (endsOf [.P (.O [.F, .F, .L .F, .L .F, .F])] ds P) (zr [.P (.O [.F, .F, .L .F, .L .F, .F])] ds ++ List.replicate 0 none) := by
  obtain ⟨t, x, rfl, hl, h⟩ := h
  unfold w_Ribbon_told
  simp [rbD, rowSD, stD] at h ⊢
  exact h
theorem RowW.get {sg : Nat} : ∀ {row : Row} {i : Nat} {y : Int × Int}, RowW sg row → row[i]? = some y → (0 ≤ y.1 ∧ y.1 < sg) ∧ 1 ≤ y.2
  | [], i, y, _, e => by simp at e
  | x :: r, 0, y, h, e => by simp at e; subst e; exact h.1
  | x :: r, i + 1, y, h, e => RowW.get h.2.2 (by simpa using e)
theorem RowW.next {sg : Nat} : ∀ {row : Row} {i : Nat} {x y : Int × Int}, RowW sg row → row[i]? = some x → row[i + 1]? = some y → y.1 ≠ x.1
  | [], i, x, y, _, e, _ => by simp at e
  | z :: r, 0, x, y, h, e, g => by
    simp at e g
    subst e
    cases r with
    | nil => simp at g
    | cons u r =>
      simp at g
      subst g
      have := h.2.1
      simpa [heads] using this
  | z :: r, i + 1, x, y, h, e, g => RowW.next h.2.2 (by simpa using e) (by simpa using g)
theorem d_ask_row (A : Cs) (ds : List D) (P : Pf) (h : W_ask_row A ds P) : w_ask_row A (endsOf [.F] ds P) (zr [.F] ds ++ List.replicate 3 none) := by
  obtain ⟨row, sg, rfl, hr, hl, h⟩ := h
  unfold w_ask_row
  simp [rowSD]
  refine for_inv (fun i r' => ∃ (x : D) (a b : Option D), r' = [some (.F, rowSD row), some (.F, x), fr a, fr b] ∧ ((i = 0 ∧ x = .non) ∨ ∃ j y, i = j + 1 ∧ row[j]? = some y ∧ x = .int y.1)) ⟨.non, none, none, rfl, .inl ⟨rfl, rfl⟩⟩ ?_ ?_
  · rintro r' ⟨x, a, b, rfl, hx⟩
    have e2 : pdK 60 x = true ∧ eqX x (.int 0) = false := by
      rcases hx with ⟨_, rfl⟩ | ⟨j, y, hj, hy, rfl⟩
      · exact ⟨rfl, rfl⟩
      · refine ⟨rfl, ?_⟩
        have hl : row.length = j + 1 := by simpa using hj
        have := hr.2 y (by rw [List.getLast?_eq_getElem?, hl]; exact hy)
        simpa using this
    simp [e2.1, e2.2]
    exact h
  · rintro i d r' hd ⟨x, a, b, rfl, hx⟩
    rw [List.getElem?_map] at hd
    cases e : row[i]? with
    | none => rw [e] at hd; simp at hd
    | some y =>
      rw [e] at hd
      simp at hd
      subst hd
      obtain ⟨⟨y0, y1⟩, y2⟩ := hr.1.get e
      have e2 : pdK 60 x = true ∧ eqX (.int y.1) x = false := by
        rcases hx with ⟨_, rfl⟩ | ⟨j, z, hj, hz, rfl⟩
        · exact ⟨rfl, rfl⟩
        · refine ⟨rfl, ?_⟩
          subst hj
          have := hr.1.next hz e
          simpa using this
      simp [celD, e2.1, e2.2]
      exact ⟨by omega, by omega, _, e⟩
theorem d_ask_stretches (A : Cs) (ds : List D) (P : Pf) (h : W_ask_stretches A ds P) : w_ask_stretches A (endsOf [.F] ds P) (zr [.F] ds ++ List.replicate 3 none) := by
  obtain ⟨q, l, r, sg, rfl, ⟨h1, h2, h3, h4⟩, h⟩ := h
  unfold w_ask_stretches
  have c : ¬ q < 0 := by omega
  have c' : 0 ≤ q := h1
  simp [stD, c, c']
  refine ⟨l, sg, rfl, h2, by have := h4.1; omega, ?_⟩
  simp
  refine ⟨r, sg, rfl, h3, by have := h4.2; omega, ?_⟩
  simp
  exact h
theorem d_ask_for (A : Cs) (ds : List D) (P : Pf) (h : W_ask_for A ds P) : w_ask_for A (endsOf [.F, .F] ds P) (zr [.F, .F] ds ++ List.replicate 2 none) := by
  obtain ⟨t, st, sg, q, l, r, rfl, ht, hx, hl, h⟩ := h
  unfold w_ask_for
  have hlen := ht.len
  have hq := hx.q
  dsimp only at hq
  have l1 := hl.1
  have l2 := hl.2
  simp
  refine ⟨q, l, r, sg, rfl, ⟨hq.1, hx.l, hx.r, hl⟩, ?_⟩
  simp [stD]
  refine ⟨t, rfl, ?_⟩
  have c : ¬ (st : Int) ≤ q := by omega
  simp [hlen, c, rowSD]
  refine ⟨by omega, by omega, ?_⟩
  rw [← List.map_append]
  have hall : ∀ y ∈ l ++ r, y.1 < sg := fun y hy => by
    have rw_ : ∀ {r : Row}, RowW sg r → ∀ y ∈ r, y.1 < sg := fun {r} => by
      induction r with
      | nil => exact fun _ y hy => nomatch hy
      | cons x r ih =>
        intro hr y hy
        rcases List.mem_cons.mp hy with rfl | hy
        · exact hr.1.1.2
        · exact ih hr.2.2 y hy
    rcases List.mem_append.mp hy with q | q
    · exact rw_ hx.l.1 y q
    · exact rw_ hx.r.1 y q
  refine for_inv (fun i r' => ∃ a b : Option D, r' = [some (.F, machD A t), some (.F, stD q l r), fr a, fr b]) ⟨none, none, rfl⟩ ?_ ?_
  · rintro r' ⟨a, b, rfl⟩
    simp
    exact h
  · rintro i d r' hd ⟨a, b, rfl⟩
    rw [List.getElem?_map] at hd
    cases e : (l ++ r)[i]? with
    | none => rw [e] at hd; simp at hd
    | some y =>
      rw [e] at hd
      simp at hd
      subst hd
      have hy := hall y (List.mem_of_getElem? e)
      simp [celD]
      refine ⟨t, st, sg, rfl, ht, ?_⟩
      simp
      exact hy
end My

namespace My
open PySem PySem.Spec PyProof.Rows L2 VL
@[simp ↓] theorem obj_rb {A : Cs} {m : Str} {t : Tab} {x : Rb} : objOk A.C_Ribbon m (rbD A t x) = (([Str.ofString "table", Str.ofString "now", Str.ofString "left", Str.ofString "right", Str.ofString "moved"] : List Str).contains m = false) := by simp [rbD]
theorem d_Ribbon_leap (A : Cs) (ds : List D) (P : Pf) (h : W_Ribbon_leap A ds P) : w_Ribbon_leap A (endsOf [.P (.O [.F, .F, .L .F, .L .F, .F]), .F] ds P) (zr [.P (.O [.F, .F, .L .F, .L .F, .F]), .F] ds ++ List.replicate 6 none) := by
  obtain ⟨t, st, sg, x, w, a, s, r, rfl, ht, hx, hl, hw, e, h⟩ := h
  unfold w_Ribbon_leap
  simp
  refine ⟨t, st, sg, x, rfl, ht, hx, hl, ?_⟩
  have ee : entD (entAt t x.q (nearS x.r)) = .tup [.int a, .str (wayS r), .int s] := by rw [e]; rfl
  simp [ee, rbD]
  refine ⟨x.r, rfl, by omega, ?_⟩
  have p := fun (row : Row) s n => putS_len (row := row) (s := s) (n := n)
  have cl := fun (row : Row) n => cutS_len (row := row) (n := n)
  cases r
  · have fin : ∀ n : Int, P.ok (.fz, .int n) [rbD A t (goS x (a, false, s) n), .int w] → P.ok (.fz, .int n) [.obj A.C_Ribbon [("table", tabT t), ("now", .int s), ("left", rowSD (cutS (cutS x.l (n - 1)) 1).reverse), ("right", rowSD (putS (putS (cutS x.r 1) a n) (nearS (cutS x.l (n - 1))) 1).reverse), ("moved", .int (x.m - n))], .int w] := fun n h => h
    by_cases c : s = x.q
    · simp [c, wayS]
      refine ⟨x.l, nearS x.r, w - 1, rfl, by omega, ?_⟩
      have hn : 1 + runS x.l (nearS x.r) (w - 1) = stepsS t x w false s := by simp [stepsS, c]
      simp
      rw [hn]
      generalize stepsS t x w false s = n at *
      have h := fin n h
      refine ⟨x.r, 1, rfl, by omega, ?_⟩
      simp
      refine ⟨x.l, n - 1, rfl, by omega, ?_⟩
      simp
      refine ⟨cutS x.r 1, a, n, rfl, by have := cl x.r 1; omega, ?_⟩
      simp
      refine ⟨cutS x.l (n - 1), rfl, by have := cl x.l (n - 1); omega, ?_⟩
      simp
      refine ⟨cutS x.l (n - 1), 1, rfl, by have := cl x.l (n - 1); omega, ?_⟩
      simp
      refine ⟨putS (cutS x.r 1) a n, nearS (cutS x.l (n - 1)), 1, rfl, by have := cl x.r 1; have := p (cutS x.r 1) a n; omega, ?_⟩
      simp
      rw [c] at h
      exact h
    · simp [c, wayS]
      have hn : stepsS t x w false s = 1 := by simp [stepsS, c]
      rw [hn] at h
      have h := fin 1 h
      refine ⟨x.r, 1, rfl, by omega, ?_⟩
      simp
      refine ⟨x.l, 0, rfl, by omega, ?_⟩
      simp
      refine ⟨cutS x.r 1, a, 1, rfl, by have := cl x.r 1; omega, ?_⟩
      simp
      refine ⟨cutS x.l 0, rfl, by have := cl x.l 0; omega, ?_⟩
      simp
      refine ⟨cutS x.l 0, 1, rfl, by have := cl x.l 0; omega, ?_⟩
      simp
      refine ⟨putS (cutS x.r 1) a 1, nearS (cutS x.l 0), 1, rfl, by have := cl x.r 1; have := p (cutS x.r 1) a 1; omega, ?_⟩
      simp
      exact h
  · have fin : ∀ n : Int, P.ok (.fz, .int n) [rbD A t (goS x (a, true, s) n), .int w] → P.ok (.fz, .int n) [.obj A.C_Ribbon [("table", tabT t), ("now", .int s), ("left", rowSD (putS x.l a n).reverse), ("right", rowSD (cutS x.r n).reverse), ("moved", .int (x.m + n))], .int w] := fun n h => h
    by_cases c : s = x.q
    · simp [c, wayS]
      refine ⟨x.r, nearS x.r, w, rfl, by omega, ?_⟩
      have hn : runS x.r (nearS x.r) w = stepsS t x w true s := by simp [stepsS, c]
      simp
      rw [hn]
      generalize stepsS t x w true s = n at *
      have h := fin n h
      refine ⟨x.r, n, rfl, by omega, ?_⟩
      simp
      refine ⟨x.l, a, n, rfl, by omega, ?_⟩
      simp
      rw [c] at h
      exact h
    · simp [c, wayS]
      have hn : stepsS t x w true s = 1 := by simp [stepsS, c]
      rw [hn] at h
      have h := fin 1 h
      refine ⟨x.r, 1, rfl, by omega, ?_⟩
      simp
      refine ⟨x.l, a, 1, rfl, by omega, ?_⟩
      simp
      exact h
end My

namespace My
open PySem PySem.Spec PyProof.Rows L2 VL
end My

namespace My
open PySem PySem.Spec PyProof.Rows L2 VL
theorem d_fast_from (A : Cs) (ds : List D) (P : Pf) (h : W_fast_from A ds P) : w_fast_from A (endsOf [.F, .F, .F, .F] ds P) (zr [.F, .F, .F, .F] ds ++ List.replicate 3 none) := by
  obtain ⟨t, st, sg, q, l, r, w, k, rfl, ht, hx, hl, hk, h⟩ := h
  unfold w_fast_from
  simp
  refine ⟨t, st, sg, q, l, r, rfl, ht, hx, hl, ?_⟩
  simp
  refine ⟨t, q, l, r, rfl, hl, ?_⟩
  simp
  have l1 := hl.1
  have l2 := hl.2
  refine ⟨fun m ρ => ∃ (x : Rb) (d : Int) (j : Nat), ρ = [some (.F, machD A t), some (.F, stD q l r), some (.F, .int w), some (.F, .int k), some (.O [.F, .F, .L .F, .L .F, .F], rbD A t x), some (.F, .int d), some (.F, .int j)] ∧ m + j = k ∧ RbOk x st sg ∧ (x.l.length ≤ 10000 + 2 * j ∧ x.r.length ≤ 10000 + 2 * j) ∧ fastS t k ⟨q, l, r, 0⟩ w = (fastS t m x (w - d)).map fun z => (z.1, d + z.2.1, j + z.2.2), ⟨k, ⟨q, l, r, 0⟩, 0, 0, rfl, rfl, hx, ⟨by show l.length ≤ _; omega, by show r.length ≤ _; omega⟩, by
    rw [Int.sub_zero]
    cases fastS t k ⟨q, l, r, 0⟩ w with
    | none => rfl
    | some z => simp⟩, ?_⟩
  rintro m ρ ⟨x, d, j, rfl, hm, hx', hl', hf⟩
  rw [hf] at h
  have stop : (w - d ≤ 0 ∨ entAt t x.q (nearS x.r) = none) → P.ok (.fz, .tup [stD x.q x.l x.r, .int x.m, .int d, .int j]) [machD A t, stD q l r, .int w, .int k] := fun g => by
    rw [fast_stop g] at h
    simpa [resD] using h
  simp
  by_cases c : d < w
  · simp [c]
    refine ⟨t, st, sg, x, rfl, ht, hx', ⟨by omega, by omega⟩, ?_⟩
    simp
    cases en : entAt t x.q (nearS x.r) with
    | none =>
      simp [entD]
      refine ⟨t, x, rfl, ⟨by omega, by omega⟩, ?_⟩
      have h := stop (.inr en)
      simp [rbD]
      exact h
    | some e =>
      obtain ⟨a, rr, s⟩ := e
      simp [entD]
      by_cases cj : k ≤ j
      · have m0 : m = 0 := by omega
        subst m0
        have e0 : fastS t 0 x (w - d) = none := by
          unfold fastS
          rw [if_neg]
          rintro (g | g)
          · omega
          · rw [en] at g; cases g
        rw [e0] at h
        simp [cj]
        simpa using h
      · simp [cj]
        obtain ⟨m, rfl⟩ : ∃ m', m = m' + 1 := ⟨m - 1, by omega⟩
        refine ⟨t, st, sg, x, w - d, a, s, rr, rfl, ht, hx', ⟨by omega, by omega⟩, by omega, en, ?_⟩
        have hs := stepsS_ok (t := t) hx' (w := w - d) (by omega) rr s
        have hfs : fastS t (m + 1) x (w - d) = (fastS t m (goS x (a, rr, s) (stepsS t x (w - d) rr s)) (w - d - stepsS t x (w - d) rr s)).map fun z => (z.1, stepsS t x (w - d) rr s + z.2.1, z.2.2 + 1) := by
          rw [fast_s, if_neg (by omega), leap_some en]
        rw [hfs] at hf
        generalize stepsS t x (w - d) rr s = n at *
        have hgl := goS_len (x := x) (e := (a, rr, s)) (n := n)
        simp
        refine ⟨m, by omega, goS x (a, rr, s) n, d + n, j + 1, ⟨rfl, rfl, by simp⟩, by omega, goS_ok ht hx' en hs.1, ⟨by omega, by omega⟩, ?_⟩
        rw [hf, show w - d - n = w - (d + n) by omega]
        cases fastS t m (goS x (a, rr, s) n) (w - (d + n)) with
        | none => rfl
        | some z =>
          simp
          omega
  · simp [c]
    refine ⟨t, x, rfl, ⟨by omega, by omega⟩, ?_⟩
    have h := stop (.inl (by omega))
    simp [rbD]
    exact h
theorem d__law_fast (A : Cs) (ds : List D) (P : Pf) (h : W__law_fast A ds P) : w__law_fast A (endsOf [.F, .F, .F, .F] ds P) (zr [.F, .F, .F, .F] ds ++ List.replicate 1 none) := by
  obtain ⟨t, st, sg, q, l, r, w, k, rfl, ht, hx, hl, hk, h⟩ := h
  unfold w__law_fast
  simp
  refine ⟨t, st, sg, q, l, r, w, k, rfl, ht, hx, hl, hk, ?_⟩
  cases e : fastS t k ⟨q, l, r, 0⟩ w with
  | none =>
    rw [e] at h
    simp
    exact h
  | some z =>
    rw [e] at h
    simp
    exact h
theorem d__law_far (A : Cs) (ds : List D) (P : Pf) (h : W__law_far A ds P) : w__law_far A (endsOf [.F, .P (.L .F)] ds P) (zr [.F, .P (.L .F)] ds ++ List.replicate 4 none) := by
  obtain ⟨ns, a, rfl, ha, h⟩ := h
  unfold w__law_far
  simp
  refine ⟨⟨by omega, by omega⟩, fun m hm0 hm1 => ?_⟩
  have cm : CMul m 10000000000000000000000000000000000000000 := .inl ⟨by omega, by omega⟩
  split
  case isTrue hp => 
    refine ⟨hp, optK_all (Int.emod_nonneg _ (by omega)) (Int.emod_lt_of_pos _ (by omega)) fun n _ => ?_⟩
    refine ⟨⟨by decide, by decide⟩, ⟨by omega, by omega⟩, ?_⟩
    refine for_inv (fun i r => ∃ (s : Int) (x : Option D), r = [some (.F, .scr ns), some (.P (.L .F), .lst [.int (a + 1)]), some (.F, .int m), some (.F, .int n), some (.F, .int s), fr x] ∧ 0 < s) ⟨10, none, rfl, by decide⟩ ?_ ?_
    · rintro r ⟨s, x, rfl, hs⟩
      simp [cm]
      refine ⟨⟨by decide, by decide, by decide⟩, ⟨by decide, by decide, by decide⟩, hs, ?_⟩
      exact h _ (by have := Int.emod_nonneg (n % 100000000000000000000000000000000000000000000000000 + m * 10000000000000000000000000000000000000000) (b := s) (by omega); omega)
    · rintro i d r hd ⟨s, x, rfl, hs⟩
      obtain ⟨hi, rfl⟩ := rangeD_get hd
      simp
      exact ⟨.inr ⟨by decide, by decide⟩, by omega⟩
  case isFalse hp =>
    refine ⟨⟨by decide, by decide⟩, ⟨by omega, by omega⟩, ?_⟩
    refine for_inv (fun i r => ∃ (s : Int) (x : Option D), r = [some (.F, .scr ns), some (.P (.L .F), .lst [.int (a + 1)]), some (.F, .int m), some (.F, .int 0), some (.F, .int s), fr x] ∧ 0 < s) ⟨10, none, rfl, by decide⟩ ?_ ?_
    · rintro r ⟨s, x, rfl, hs⟩
      simp [cm]
      refine ⟨⟨by decide, by decide, by decide⟩, ⟨by decide, by decide, by decide⟩, hs, ?_⟩
      exact h _ (by have := Int.emod_nonneg (m * 10000000000000000000000000000000000000000) (b := s) (by omega); omega)
    · rintro i d r hd ⟨s, x, rfl, hs⟩
      obtain ⟨hi, rfl⟩ := rangeD_get hd
      simp
      exact ⟨.inr ⟨by decide, by decide⟩, by omega⟩
def lastD (row : Row) : D := match row.getLast? with
  | none => .non
  | some x => .int x.1
end My

namespace My
open PySem PySem.Spec PyProof.Rows L2 VL
theorem marksS_app {w : Int} : ∀ {a b : Row} {p : Int}, marksS (a ++ b) p w = marksS a p w ++ marksS b (p + w * totS a) w
  | [], b, p => by simp [marksS, totS]
  | (s, n) :: a, b, p => by
    show (if s = 0 then [] else (List.range n.toNat).map fun k : Nat => (p + w * (k : Int), s)) ++ marksS (a ++ b) (p + w * n) w = (if s = 0 then [] else (List.range n.toNat).map fun k : Nat => (p + w * (k : Int), s)) ++ marksS a (p + w * n) w ++ marksS b (p + w * (n + totS a)) w
    rw [marksS_app, List.append_assoc, Int.mul_add, ← Int.add_assoc]
theorem totS_app : ∀ {a b : Row}, totS (a ++ b) = totS a + totS b
  | [], b => by simp [totS]
  | x :: a, b => by
    show x.2 + totS (a ++ b) = x.2 + totS a + totS b
    rw [totS_app]
    omega
theorem rowW_mem {sg : Nat} : ∀ {row : Row} {i : Nat} {x : Int × Int}, RowW sg row → row[i]? = some x → (0 ≤ x.1 ∧ x.1 < sg) ∧ 1 ≤ x.2
  | [], i, x, h, e => by simp at e
  | y :: r, 0, x, h, e => by
    simp at e
    subst e
    exact h.1
  | y :: r, i + 1, x, h, e => rowW_mem h.2.2 (by simpa using e)
theorem totS_in {sg : Nat} {row : Row} {i : Nat} {x : Int × Int} (h : RowW sg row) (e : row[i]? = some x) : x.2 ≤ totS row := (totS_ok h).2 x (List.mem_of_getElem? e)
theorem rowW_take {sg : Nat} : ∀ {row : Row} {i : Nat}, RowW sg row → RowW sg (row.take i)
  | [], i, h => by simpa using h
  | y :: r, 0, h => trivial
  | [y], i + 1, h => by simpa using h
  | y :: z :: r, 1, h => ⟨h.1, by simp [heads], trivial⟩
  | y :: z :: r, i + 2, h => ⟨h.1, h.2.1, rowW_take (row := z :: r) (i := i + 1) h.2.2⟩
theorem totS_take {sg : Nat} : ∀ {row : Row} {i : Nat}, RowW sg row → totS (row.take i) + 0 ≤ totS row ∧ ∀ x, row[i]? = some x → totS (row.take i) + x.2 ≤ totS row
  | [], i, h => by simp [totS]
  | y :: r, 0, h => by
    have h1 := (totS_ok h.2.2).1
    have := h.1.2
    refine ⟨?_, fun x e => ?_⟩
    · show 0 + 0 ≤ y.2 + totS r
      omega
    · simp at e
      subst e
      show 0 + y.2 ≤ y.2 + totS r
      omega
  | y :: r, i + 1, h => by
    obtain ⟨h1, h2⟩ := totS_take (row := r) (i := i) h.2.2
    refine ⟨?_, fun x e => ?_⟩
    · show y.2 + totS (r.take i) + 0 ≤ y.2 + totS r
      omega
    · have := h2 x (by simpa using e)
      show y.2 + totS (r.take i) + x.2 ≤ y.2 + totS r
      omega
def pvR (xs : List Cf) : Nat → Option (Int × Int)
  | 0 => none
  | i + 1 => (xs[i]?).map rdC
theorem d_marks_along (A : Cs) (ds : List D) (P : Pf) (h : W_marks_along A ds P) : w_marks_along A (endsOf [.F, .F, .F] ds P) (zr [.F, .F, .F] ds ++ List.replicate 5 none) := by
  obtain ⟨row, sg, p, w, rfl, hr, hw, ht, h⟩ := h
  unfold w_marks_along
  simp [rowSD]
  refine for_inv (fun i r => ∃ (x y z : Option D), r = [some (.F, rowSD row), some (.F, .int p), some (.F, .int w), some (.L .F, .lst ((marksS (row.take i) p w).map markD)), some (.F, .int (p + w * totS (row.take i))), fr x, fr y, fr z]) ⟨none, none, none, by simp [marksS, totS, rowSD, fr]⟩ ?_ ?_
  · rintro r ⟨x, y, z, rfl⟩
    simp [rowSD] at h ⊢
    exact h
  · rintro i d r hd ⟨x, y, z, rfl⟩
    simp at hd ⊢
    obtain ⟨s, n, hi, rfl⟩ := hd
    have hm := rowW_mem hr hi
    have e1 : row.take (i + 1) = row.take i ++ [(s, n)] := by rw [List.take_succ, hi]; rfl
    have e2 : totS (row.take (i + 1)) = totS (row.take i) + n := by rw [e1, totS_app]; simp [totS]
    have e3 : marksS (row.take (i + 1)) p w = marksS (row.take i) p w ++ (if s = 0 then [] else (List.range n.toNat).map fun k : Nat => (p + w * totS (row.take i) + w * (k : Int), s)) := by
      rw [e1, marksS_app]
      simp [marksS]
    have hin := totS_in hr hi
    have hm1 := hm.2
    dsimp only at hm1 hin
    have cm : CMul w n := by
      rcases hw with rfl | rfl
      · exact cmul_l (by decide) (by decide)
      · exact .inr ⟨by omega, by omega⟩
    have e4 : p + w * totS (row.take i) + w * n = p + w * totS (row.take (i + 1)) := by rw [e2, Int.mul_add]; omega
    simp [celD]
    by_cases c : s = 0
    · rw [if_pos c]
      refine ⟨cm, ?_, e4⟩
      rw [e3, if_pos c, List.append_nil]
    · rw [if_neg c]
      refine ⟨by unfold VL.inR; omega, ?_⟩
      refine lc_mapA (xs := List.range n.toNat) (f := fun k : Nat => D.int (0 + (k : Int))) (G := fun k : Nat => markD (p + w * totS (row.take i) + w * (k : Int), s)) ?_ fun k hk acc ha => ?_
      · have hlen := marksS_len (w := w) (p := p) (rowW_take (i := i) hr)
        have htk := (totS_take (i := i) hr).2 _ hi
        dsimp only at htk
        simp
        refine ⟨by omega, cm, ?_, e4⟩
        rw [e3, if_neg c, List.map_append, List.map_map]
        rfl
      · have hk := List.mem_range.mp hk
        rw [List.length_range] at ha
        have cm2 : CMul w k := by
          rcases hw with rfl | rfl
          · exact cmul_l (by decide) (by decide)
          · exact .inr ⟨by omega, by omega⟩
        simp [markD]
        exact ⟨cm2, by omega⟩
theorem d_shot_of (A : Cs) (ds : List D) (P : Pf) (h : W_shot_of A ds P) : w_shot_of A (endsOf [.F, .F] ds P) (zr [.F, .F] ds ++ List.replicate 4 none) := by
  obtain ⟨q, l, r, p, sg, rfl, ⟨hq, hl, hr, hlen⟩, ht, h⟩ := h
  unfold w_shot_of
  simp
  refine ⟨q, l, r, sg, rfl, ⟨hq, hl, hr, hlen⟩, ?_⟩
  simp [stD]
  have t1 := (totS_ok hl.1).1
  have t2 := (totS_ok hr.1).1
  refine ⟨l, sg, p - 1, -1, rfl, hl.1, .inr rfl, by omega, ?_⟩
  simp
  refine ⟨r, sg, p, 1, rfl, hr.1, .inl rfl, by omega, ?_⟩
  have l1 := marksS_len (w := -1) (p := p - 1) hl.1
  have l2 := marksS_len (w := 1) (p := p) hr.1
  simp
  refine ⟨by omega, ?_⟩
  have h' := h
  simp only [shotD, marksD_def, List.map_append, List.map_reverse, stD] at h'
  exact h'
theorem d_fast_after (A : Cs) (ds : List D) (P : Pf) (h : W_fast_after A ds P) : w_fast_after A (endsOf [.F, .F, .F] ds P) (zr [.F, .F, .F] ds ++ List.replicate 4 none) := by
  obtain ⟨t, st, sg, w, k, rfl, ht, hk, h⟩ := h
  unfold w_fast_after
  simp
  refine ⟨t, st, sg, 0, [], [], w, k, by simp [stD, rowSD], ht, rb0_ok ht, ⟨by decide, by decide⟩, by omega, ?_⟩
  cases e : fastS t k rb0 w with
  | none =>
    rw [e] at h
    have e' : fastS t k ⟨0, [], [], 0⟩ w = none := e
    rw [e']
    simp
    exact h
  | some z =>
    rw [e] at h
    have e' : fastS t k ⟨0, [], [], 0⟩ w = some z := e
    rw [e']
    obtain ⟨k1, k2, k3, k4, k5, k6⟩ := fast_ok ht (rb0_ok ht) e
    have l0 : rb0.l.length = 0 := rfl
    have r0 : rb0.r.length = 0 := rfl
    simp [resD]
    refine ⟨z.1.q, z.1.l, z.1.r, z.1.m, sg, rfl, ⟨k1.q.1, k1.l, k1.r, ⟨by omega, by omega⟩⟩, h.1, ?_⟩
    simp
    exact h.2
end My

namespace My
open PySem PySem.Spec PyProof.Rows L2 VL
theorem d__law_same (A : Cs) (n : Nat) (ds : List D) (P : Pf) (h : W__law_same A (n + 1) ds P) : w__law_same A n (endsOf [.F, .F] ds P) (zr [.F, .F] ds ++ List.replicate 2 none) := by
  obtain ⟨x, y, rfl, hx, hy, h⟩ := h
  unfold w__law_same
  have sq : ∀ (a b : List D) (ρ : Rho) (Z : List D → Rho → Prop), (∀ u ∈ a, ShF n u = true) → (∀ v ∈ b, ShB n v = true) → a.length ≤ 90000 → True := fun _ _ _ _ _ _ _ => trivial
  cases y with
  | int b =>
    cases x with
    | int a => simpa [sameD, sameB] using h
    | str a => simpa [sameD, sameB] using h
    | non => simpa [sameD, sameB] using h
    | bl c => simpa [sameD, sameB] using h
    | lst a => simpa [sameD, sameB] using h
    | tup a => simpa [sameD, sameB] using h
    | dct a => cases n <;> simp [ShF] at hx
    | obj C fs => cases n <;> simp [ShF] at hx
    | scr ns => cases n <;> simp [ShF] at hx
    | exc ns => cases n <;> simp [ShF] at hx
    | ndc ns => cases n <;> simp [ShF] at hx
  | str b =>
    cases x with
    | int a => simpa [sameD, sameB] using h
    | str a => simpa [sameD, sameB] using h
    | non => simpa [sameD, sameB] using h
    | bl c => simpa [sameD, sameB] using h
    | lst a => simpa [sameD, sameB] using h
    | tup a => simpa [sameD, sameB] using h
    | dct a => cases n <;> simp [ShF] at hx
    | obj C fs => cases n <;> simp [ShF] at hx
    | scr ns => cases n <;> simp [ShF] at hx
    | exc ns => cases n <;> simp [ShF] at hx
    | ndc ns => cases n <;> simp [ShF] at hx
  | lst b =>
    cases n with
    | zero => simp [ShB] at hy
    | succ n =>
      simp [ShB] at hy
      cases x with
      | int a => simpa [sameD, sameB] using h
      | str a => simpa [sameD, sameB] using h
      | non => simpa [sameD, sameB] using h
      | bl c => simpa [sameD, sameB] using h
      | tup a => simpa [sameD, sameB] using h
      | lst a =>
        simp [ShF] at hx
        simp
        have lem : ∀ (ρ : Rho) (Z : List D → Rho → Prop), ρ = [some (.F, .lst a), some (.F, .lst b), none, none] → Z ((zipD a b).map fun d => match d with | .tup [x, y] => .bl (sameD n x y) | _ => .non) ρ → lcK (zipD a b) (wgTup 2 (wgCons (wgN 2) (wgCons (wgN 3) wgNil))) wYes (wCall [Md.F, Md.F] (W__law_same A (n + 1)) [] (wCons (wVar 2) (wCons (wVar 3) wNil))) [2, 3] [] ρ Z := fun ρ Z e hz => by
          subst e
          refine lc_map _ hz fun d hd acc ha => ?_
          obtain ⟨⟨u, v⟩, huv, rfl⟩ := List.mem_map.mp hd
          have h1 := List.of_mem_zip huv
          have hl : (zipD a b).length ≤ 90000 := by rw [zipD_len]; omega
          simp
          refine ⟨u, v, rfl, hx u h1.1, hy.2 v h1.2, ?_⟩
          simp
          omega
        by_cases c : a.length = b.length
        · rw [if_pos (by omega)]
          refine lem _ _ rfl ?_
          have e : ((zipD a b).map fun d => match d with | .tup [x, y] => D.bl (sameD n x y) | _ => .non) = (a.zip b).map fun z => D.bl (sameD n z.1 z.2) := by
            unfold zipD
            rw [List.map_map]
            rfl
          rw [e, blsOf_map]
          have e2 : ((a.zip b).map fun z => sameD n z.1 z.2).all id = (a.zip b).all fun z => sameD n z.1 z.2 := by rw [List.all_map]; rfl
          simp only [optK_s, e2, finK_F, finK_nil]
          simpa [sameD, c] using h
        · rw [if_neg (by omega)]
          simpa [sameD, c] using h
      | dct a => simp [ShF] at hx
      | obj C fs => simp [ShF] at hx
      | scr ns => simp [ShF] at hx
      | exc ns => simp [ShF] at hx
      | ndc ns => simp [ShF] at hx
  | tup b =>
    cases n with
    | zero => simp [ShB] at hy
    | succ n =>
      simp [ShB] at hy
      cases x with
      | int a => simpa [sameD, sameB] using h
      | str a => simpa [sameD, sameB] using h
      | non => simpa [sameD, sameB] using h
      | bl c => simpa [sameD, sameB] using h
      | lst a => simpa [sameD, sameB] using h
      | tup a =>
        simp [ShF] at hx
        simp
        have lem : ∀ (ρ : Rho) (Z : List D → Rho → Prop), ρ = [some (.F, .tup a), some (.F, .tup b), none, none] → Z ((zipD a b).map fun d => match d with | .tup [x, y] => .bl (sameD n x y) | _ => .non) ρ → lcK (zipD a b) (wgTup 2 (wgCons (wgN 2) (wgCons (wgN 3) wgNil))) wYes (wCall [Md.F, Md.F] (W__law_same A (n + 1)) [] (wCons (wVar 2) (wCons (wVar 3) wNil))) [2, 3] [] ρ Z := fun ρ Z e hz => by
          subst e
          refine lc_map _ hz fun d hd acc ha => ?_
          obtain ⟨⟨u, v⟩, huv, rfl⟩ := List.mem_map.mp hd
          have h1 := List.of_mem_zip huv
          have hl : (zipD a b).length ≤ 90000 := by rw [zipD_len]; omega
          simp
          refine ⟨u, v, rfl, hx u h1.1, hy.2 v h1.2, ?_⟩
          simp
          omega
        by_cases c : a.length = b.length
        · rw [if_pos (by omega)]
          refine lem _ _ rfl ?_
          have e : ((zipD a b).map fun d => match d with | .tup [x, y] => D.bl (sameD n x y) | _ => .non) = (a.zip b).map fun z => D.bl (sameD n z.1 z.2) := by
            unfold zipD
            rw [List.map_map]
            rfl
          rw [e, blsOf_map]
          have e2 : ((a.zip b).map fun z => sameD n z.1 z.2).all id = (a.zip b).all fun z => sameD n z.1 z.2 := by rw [List.all_map]; rfl
          simp only [optK_s, e2, finK_F, finK_nil]
          simpa [sameD, c] using h
        · rw [if_neg (by omega)]
          simpa [sameD, c] using h
      | dct a => simp [ShF] at hx
      | obj C fs => simp [ShF] at hx
      | scr ns => simp [ShF] at hx
      | exc ns => simp [ShF] at hx
      | ndc ns => simp [ShF] at hx
  | non => cases n <;> simp [ShB] at hy
  | bl c => cases n <;> simp [ShB] at hy
  | dct a => cases n <;> simp [ShB] at hy
  | obj C fs => cases n <;> simp [ShB] at hy
  | scr ns => cases n <;> simp [ShB] at hy
  | exc ns => cases n <;> simp [ShB] at hy
  | ndc ns => cases n <;> simp [ShB] at hy
end My

namespace My
open PySem PySem.Spec PyProof.Rows L2 VL

theorem cutR_le : ∀ {l : List Cf} {p : Option (Int × Int)}, cutR p l ≤ l.length - 1
  | [], p => by simp [cutR]
  | [_], p => by simp [cutR]
  | c :: d :: r, p => by
    have ih := cutR_le (l := d :: r) (p := some (rdC c))
    show (if some (rdC c) = p then 0 else 1) + cutR (some (rdC c)) (d :: r) ≤ _
    simp at ih ⊢
    split <;> omega
theorem run_le0 {t : Tab} : ∀ {m : Nat} {x : Cf}, (runC t m x).1 ≤ m
  | 0, x => by simp [runC]
  | m + 1, x => by
    cases e : stepC t x with
    | none => rw [runC_n e]; simp
    | some y =>
      rw [runC_s e]
      have := run_le0 (t := t) (m := m) (x := y)
      simp
      exact this
/-- what the fast run tells from the blank row on -/
theorem fast0 {t : Tab} {st sg : Nat} (ht : TabOk t st sg) (w : Int) (hw : w ≤ 1000) :
    (∀ k, cutR none (rowC t w.toNat cf0) ≤ k → ∃ z : Rb × Int × Nat, fastS t k rb0 w = some z ∧ z.2.1 = ((runC t w.toNat cf0).1 : Nat) ∧ totS z.1.l + totS z.1.r ≤ 20000 ∧ shotD z.1.q z.1.m (marksR z.1) = shotC (runC t w.toNat cf0).2) ∧ (∀ k, k < cutR none (rowC t w.toNat cf0) → fastS t k rb0 w = none) := by
  by_cases c : w ≤ 0
  · have e : w.toNat = 0 := by omega
    rw [e]
    refine ⟨fun k _ => ⟨(rb0, 0, 0), fast_stop (.inl c), rfl, by decide, by simp [marksR, rb0, marksS, shotC, runC, cf0, sortC]⟩, fun k hk => ?_⟩
    have : cutR none (rowC t 0 cf0) = 0 := rfl
    omega
  · obtain ⟨W, rfl⟩ : ∃ W : Nat, w = W := ⟨w.toNat, by omega⟩
    rw [Int.toNat_natCast]
    obtain ⟨h1, h2⟩ := fast_cuts ht W W (Nat.le_refl _) (rb0_ok ht) rep0
    refine ⟨fun k hk => ?_, h2⟩
    obtain ⟨z, d, e1, e2, e3⟩ := h1 k hk
    refine ⟨_, e1, e2, ?_, ?_⟩
    · have := totS_fast ht (rb0_ok ht) e1
      have hr := run_le0 (t := t) (m := W) (x := cf0)
      have r0 : totS rb0.l + totS rb0.r = 0 := rfl
      dsimp only at this ⊢
      omega
    · have hz := (fast_ok ht (rb0_ok ht) e1).1
      show shotD z.q z.m (marksR z) = _
      rw [marks_rep hz e3 (near_run t W)]
      unfold shotC
      rw [e3.q, e3.p]
/-- to and fro -/
def tabTF : Tab := [[some (0, true, 1)], [some (0, false, 0)]]
def rb1 : Rb := ⟨1, [], [], 1⟩
end My

namespace My
open PySem PySem.Spec PyProof.Rows L2 VL
local macro_rules | `(tactic| simp $[[$args,*]]? $[$loc]?) => `(tactic| simp -implicitDefEqProofs $[[$args,*]]? $[$loc]?)
local macro_rules | `(tactic| simpa $[[$args,*]]? using $e) => `(tactic| simpa -implicitDefEqProofs $[[$args,*]]? using $e)
theorem ixN_end {n : Nat} : L2.ixN (n + 1) (-1) = some n := by
  unfold L2.ixN
  simp
  omega
def optD : Option Int → D
  | none => .non
  | some x => .int x
theorem ints_eq {a b : List Int} (h : a.Perm b) (ha : a.Pairwise (· ≤ ·)) (hb : b.Pairwise (· ≤ ·)) : a = b :=
  List.Perm.eq_of_pairwise (le := fun a b => a ≤ b) (fun a b _ _ h1 h2 => Int.le_antisymm h1 h2) ha hb h
theorem keys_sortC {c : Cells} {ns : List Int} (hn : (c.map (·.1)).Nodup) (h1 : ns.Perm (c.map (·.1))) (h2 : ns.Pairwise (· ≤ ·)) : ns = (sortC c).map (·.1) := by
  refine ints_eq (h1.trans ((sortC_of hn).1.map (·.1)).symm) h2 ?_
  rw [List.pairwise_map]
  exact (sortC_rise hn).imp fun e => by omega
theorem d__law_seen (A : Cs) (ds : List D) (P : Pf) (h : W__law_seen A ds P) : w__law_seen A (endsOf [.F] ds P) (zr [.F] ds ++ List.replicate 11 none) := by
  obtain ⟨y, sg, rfl, hc, hl, h⟩ := h
  unfold w__law_seen
  simp [cfD, cD]
  refine for_inv (fun i r => ∃ (x y1 y2 z v w u : Option D), r = [some (.F, cfD y), some (.F, .int y.q), some (.F, .int y.p), some (.F, cD y.c), some (.T [.L .F, .L .F], .tup [rowSD (if 0 < i then (seenR y).l else []), rowSD (if 1 < i then (seenR y).r else [])]), fr x, fr y1, fr y2, fr z, fr v, fr w, fr u]) ⟨none, none, none, none, none, none, none, by simp [fr, rowSD, cfD, cD]⟩ ?_ ?_
  · rintro r ⟨x, y1, y2, z, v, w, u, rfl⟩
    simp
    exact h
  · rintro i d r hd ⟨x, y1, y2, z, v, w, u, rfl⟩
    have hr := sortC_rise hc.n
    have hv := sortC_v hc
    match i, hd with
    | 0, hd =>
      have hd := Option.some.inj hd
      subst hd
      have hps : PsA sg (leftM y.p (sortC y.c)) := leftM_ok hr hv
      have hpl : ((leftM y.p (sortC y.c))).length ≤ 10000 := by
        have := List.length_filter_le (fun x : Int × Int => decide (x.1 < y.p)) (sortC y.c).reverse
        simp only [leftM, List.length_map]
        rw [← (show ((sortC y.c).reverse).length = y.c.length by rw [List.length_reverse, sortC_len hc.n])] at hl
        exact Nat.le_trans this hl
      simp [cfD, cD, ints_keys]
      intro ns h1 h2
      have ens := keys_sortC hc.n h1 h2
      subst ens
      rw [List.map_map]
      refine lc_filq (α := Int × Int) (xs := sortC y.c) (f := D.int ∘ fun x => x.1) (c := fun x => decide (x.1 < y.p)) (G := fun x => .int ((x.1 - y.p) * -1 - 1 + 0)) ?_ ?_
      · simp [intsOf_map]
        intro ns' g1 g2
        have ens' : ns' = (leftM y.p (sortC y.c)).map (·.1) := ints_eq (g1.trans (by
          unfold leftM
          rw [List.map_map]
          refine (List.Perm.of_eq ?_).trans (((List.reverse_perm (sortC y.c)).filter _).symm.map _)
          refine List.map_congr_left fun x _ => ?_
          show _ = y.p - 1 - x.1
          omega)) g2 (by
          rw [List.pairwise_map]
          exact hps.a.imp fun e => by omega)
        subst ens'
        generalize hspd : (D.lst (List.map (fun x => D.int (-(x.fst - y.p) - 1)) (List.filter (fun x : Int × Int => decide (x.1 < y.p)) (sortC y.c)))) = spd
        refine for_inv (fun i r => ∃ (a b : Option D), r = [some (.F, cfD y), some (.F, .int y.q), some (.F, .int y.p), some (.F, cD y.c), some (.T [.L .F, .L .F], .tup [rowSD (foldR ((leftM y.p (sortC y.c)).take i)).1, rowSD []]), some (.F, .int 0), some (.F, .int (-1)), none, some (.F, spd), some (.F, .int ((foldR ((leftM y.p (sortC y.c)).take i)).2 - 1)), fr a, fr b]) ⟨w, u, by simp [foldR, cfD, cD, rowSD]⟩ ?_ ?_
        · rintro r ⟨a, b, rfl⟩
          simp
          have e9 : List.take (leftM y.p (sortC y.c)).length (leftM y.p (sortC y.c)) = leftM y.p (sortC y.c) := List.take_length
          simp [cfD, cD, e9]
          rfl
        · rintro i d r hd ⟨a, b, rfl⟩
          have hd' : ∃ x, (leftM y.p (sortC y.c))[i]? = some x ∧ d = .int x.1 := by
            simp at hd
            obtain ⟨d0, ⟨s0, hi⟩, rfl⟩ := hd
            exact ⟨_, hi, rfl⟩
          obtain ⟨⟨dd, s⟩, hi, rfl⟩ := hd'
          have hi2 := (List.getElem?_eq_some_iff.mp hi).1
          have etk : (leftM y.p (sortC y.c)).take (i + 1) = (leftM y.p (sortC y.c)).take i ++ [(dd, s)] := by rw [List.take_succ, hi]; rfl
          have pst : PsA sg ((leftM y.p (sortC y.c)).take (i + 1)) := ⟨fun x hx => hps.d x (List.mem_of_mem_take hx), hps.a.sublist (List.take_sublist _ _)⟩
          have e : foldR ((leftM y.p (sortC y.c)).take (i + 1)) = stepR (foldR ((leftM y.p (sortC y.c)).take i)) (dd, s) := by rw [etk]; exact foldR_snoc
          rw [etk] at pst
          have psa := List.pairwise_append.mp pst.a
          have pst0 : PsA sg ((leftM y.p (sortC y.c)).take i) := ⟨fun x hx => pst.d x (List.mem_append_left _ hx), psa.1⟩
          obtain ⟨I, hM⟩ := foldR_I _ pst0
          have hd0 := hps.d (dd, s) (List.mem_of_getElem? hi)
          have hrd := hM dd hd0.1 fun x hx => psa.2.2 x hx (dd, s) (by simp)
          have hlen := I.len
          rw [List.length_take] at hlen
          have hkey : ∀ K : Int, K = (y.p - 1 - dd) → valD (cK y.c) (.inl K) = some (.int s) := fun K hK => by
            have hm : ((y.p - 1 - dd), s) ∈ y.c := by
              have := List.mem_of_getElem? hi
              obtain ⟨z, hz, ez⟩ := List.mem_map.mp this
              have e1 := congrArg Prod.fst ez
              have e2 := congrArg Prod.snd ez
              dsimp only at e1 e2
              have hz2 := List.mem_reverse.mp  (List.mem_filter.mp hz).1
              have : z = ((y.p - 1 - dd), s) := Prod.ext (by show z.1 = _; omega) e2
              rw [← this]
              exact (sortC_of hc.n).1.mem_iff.mp hz2
            rw [hK, valD_cK, cGet_of hc.n _ hm]
            rfl
          have cm0 : ∀ z : Int, CMul ((-1)) z := fun z => .inl ⟨by decide, by decide⟩
          rw [e]
          generalize foldR ((leftM y.p (sortC y.c)).take i) = f at *
          obtain ⟨row, reached⟩ := f
          dsimp only at hlen hrd
          simp [cfD, cD, cm0]
          rw [hkey _ (by omega)]
          have hst : (stepR (row, reached) (dd, s)).1.length ≤ 2 * (i + 1) + 2 := by
            unfold stepR
            dsimp only
            split
            · simp; omega
            · unfold bumpR
              split
              · split
                · simp; omega
                · simp; omega
              · simp; omega
          by_cases c : reached < dd
          · have e2 : stepR (row, reached) (dd, s) = (row ++ [(0, dd - reached), (s, 1)], dd + 1) := by simp [stepR, c]
            rw [e2] at hst ⊢
            simp [c, rowSD]
            refine ⟨by omega, ?_⟩
            rw [if_neg (by omega)]
            simp [celD]
            omega
          · have e2 : stepR (row, reached) (dd, s) = (bumpR row s, dd + 1) := by simp [stepR, c]
            have e3 : dd = reached := by omega
            rw [e2] at hst ⊢
            rcases List.eq_nil_or_concat row with e4 | ⟨init, yy, e4⟩
            · subst e4
              simp [c, rowSD, bumpR, e3, celD]
            · obtain ⟨u0, n0⟩ := yy
              have e4 : row = init ++ [(u0, n0)] := by simpa using e4
              subst e4
              rw [bumpR_snoc] at hst ⊢
              have hp : (0 : Int) < (init.length : Int) + 1 := by omega
              simp at hlen
              by_cases c1 : u0 = s
              · subst c1
                simp [c, rowSD, hp, ixN_end, e3, celD]
              · simp [c, rowSD, hp, ixN_end, c1, e3, celD]
                omega
      · rintro ⟨k, s⟩ hx acc ha
        rw [sortC_len hc.n] at ha
        simp
        by_cases c : k < y.p
        · rw [if_pos c]
          exact ⟨.inr ⟨by decide, by decide⟩, by omega, c⟩
        · rw [if_neg c]
          omega
    | 1, hd =>
      have hd := Option.some.inj hd
      subst hd
      have hps : PsA sg (rightM y.p (sortC y.c)) := rightM_ok hr hv
      have hpl : ((rightM y.p (sortC y.c))).length ≤ 10000 := by
        have := List.length_filter_le (fun x : Int × Int => decide (y.p ≤ x.1)) (sortC y.c)
        simp only [rightM, List.length_map]
        rw [← (show (sortC y.c).length = y.c.length from sortC_len hc.n)] at hl
        exact Nat.le_trans this hl
      simp [cfD, cD, ints_keys]
      intro ns h1 h2
      have ens := keys_sortC hc.n h1 h2
      subst ens
      rw [List.map_map]
      refine lc_filq (α := Int × Int) (xs := sortC y.c) (f := D.int ∘ fun x => x.1) (c := fun x => decide (y.p ≤ x.1)) (G := fun x => .int ((x.1 - y.p) * 1 - 1 + 1)) ?_ ?_
      · simp [intsOf_map]
        intro ns' g1 g2
        have ens' : ns' = (rightM y.p (sortC y.c)).map (·.1) := ints_eq (g1.trans (by
          unfold rightM
          rw [List.map_map]
          refine List.Perm.of_eq (List.map_congr_left fun x _ => ?_)
          show _ = x.1 - y.p
          omega)) g2 (by
          rw [List.pairwise_map]
          exact hps.a.imp fun e => by omega)
        subst ens'
        generalize hspd : (D.lst (List.map (fun x => D.int (x.fst - y.p)) (List.filter (fun x : Int × Int => decide (y.p ≤ x.1)) (sortC y.c)))) = spd
        refine for_inv (fun i r => ∃ (a b : Option D), r = [some (.F, cfD y), some (.F, .int y.q), some (.F, .int y.p), some (.F, cD y.c), some (.T [.L .F, .L .F], .tup [rowSD (seenR y).l, rowSD (foldR ((rightM y.p (sortC y.c)).take i)).1]), some (.F, .int 1), some (.F, .int 1), none, some (.F, spd), some (.F, .int ((foldR ((rightM y.p (sortC y.c)).take i)).2 - 1)), fr a, fr b]) ⟨w, u, by simp [foldR, cfD, cD, rowSD]⟩ ?_ ?_
        · rintro r ⟨a, b, rfl⟩
          simp
          have e9 : List.take (rightM y.p (sortC y.c)).length (rightM y.p (sortC y.c)) = rightM y.p (sortC y.c) := List.take_length
          simp [cfD, cD, e9]
          rfl
        · rintro i d r hd ⟨a, b, rfl⟩
          have hd' : ∃ x, (rightM y.p (sortC y.c))[i]? = some x ∧ d = .int x.1 := by
            simp at hd
            obtain ⟨d0, ⟨s0, hi⟩, rfl⟩ := hd
            exact ⟨_, hi, rfl⟩
          obtain ⟨⟨dd, s⟩, hi, rfl⟩ := hd'
          have hi2 := (List.getElem?_eq_some_iff.mp hi).1
          have etk : (rightM y.p (sortC y.c)).take (i + 1) = (rightM y.p (sortC y.c)).take i ++ [(dd, s)] := by rw [List.take_succ, hi]; rfl
          have pst : PsA sg ((rightM y.p (sortC y.c)).take (i + 1)) := ⟨fun x hx => hps.d x (List.mem_of_mem_take hx), hps.a.sublist (List.take_sublist _ _)⟩
          have e : foldR ((rightM y.p (sortC y.c)).take (i + 1)) = stepR (foldR ((rightM y.p (sortC y.c)).take i)) (dd, s) := by rw [etk]; exact foldR_snoc
          rw [etk] at pst
          have psa := List.pairwise_append.mp pst.a
          have pst0 : PsA sg ((rightM y.p (sortC y.c)).take i) := ⟨fun x hx => pst.d x (List.mem_append_left _ hx), psa.1⟩
          obtain ⟨I, hM⟩ := foldR_I _ pst0
          have hd0 := hps.d (dd, s) (List.mem_of_getElem? hi)
          have hrd := hM dd hd0.1 fun x hx => psa.2.2 x hx (dd, s) (by simp)
          have hlen := I.len
          rw [List.length_take] at hlen
          have hkey : ∀ K : Int, K = (y.p + dd) → valD (cK y.c) (.inl K) = some (.int s) := fun K hK => by
            have hm : ((y.p + dd), s) ∈ y.c := by
              have := List.mem_of_getElem? hi
              obtain ⟨z, hz, ez⟩ := List.mem_map.mp this
              have e1 := congrArg Prod.fst ez
              have e2 := congrArg Prod.snd ez
              dsimp only at e1 e2
              have hz2 := id  (List.mem_filter.mp hz).1
              have : z = ((y.p + dd), s) := Prod.ext (by show z.1 = _; omega) e2
              rw [← this]
              exact (sortC_of hc.n).1.mem_iff.mp hz2
            rw [hK, valD_cK, cGet_of hc.n _ hm]
            rfl
          have cm0 : ∀ z : Int, CMul (1) z := fun z => .inl ⟨by decide, by decide⟩
          rw [e]
          generalize foldR ((rightM y.p (sortC y.c)).take i) = f at *
          obtain ⟨row, reached⟩ := f
          dsimp only at hlen hrd
          simp [cfD, cD, cm0]
          rw [hkey _ (by omega)]
          have hst : (stepR (row, reached) (dd, s)).1.length ≤ 2 * (i + 1) + 2 := by
            unfold stepR
            dsimp only
            split
            · simp; omega
            · unfold bumpR
              split
              · split
                · simp; omega
                · simp; omega
              · simp; omega
          by_cases c : reached < dd
          · have e2 : stepR (row, reached) (dd, s) = (row ++ [(0, dd - reached), (s, 1)], dd + 1) := by simp [stepR, c]
            rw [e2] at hst ⊢
            simp [c, rowSD]
            refine ⟨by omega, ?_⟩
            rw [if_neg (by omega)]
            simp [celD]
            omega
          · have e2 : stepR (row, reached) (dd, s) = (bumpR row s, dd + 1) := by simp [stepR, c]
            have e3 : dd = reached := by omega
            rw [e2] at hst ⊢
            rcases List.eq_nil_or_concat row with e4 | ⟨init, yy, e4⟩
            · subst e4
              simp [c, rowSD, bumpR, e3, celD]
            · obtain ⟨u0, n0⟩ := yy
              have e4 : row = init ++ [(u0, n0)] := by simpa using e4
              subst e4
              rw [bumpR_snoc] at hst ⊢
              have hp : (0 : Int) < (init.length : Int) + 1 := by omega
              simp at hlen
              by_cases c1 : u0 = s
              · subst c1
                simp [c, rowSD, hp, ixN_end, e3, celD]
              · simp [c, rowSD, hp, ixN_end, c1, e3, celD]
                omega
      · rintro ⟨k, s⟩ hx acc ha
        rw [sortC_len hc.n] at ha
        simp
        by_cases c : y.p ≤ k
        · rw [if_pos c]
          exact ⟨.inr ⟨by decide, by decide⟩, by omega, c⟩
        · rw [if_neg c]
          omega
    | i + 2, hd => simp at hd
end My

namespace My
open PySem PySem.Spec PyProof.Rows L2 VL
local macro_rules | `(tactic| simp $[[$args,*]]? $[$loc]?) => `(tactic| simp -implicitDefEqProofs $[[$args,*]]? $[$loc]?)
local macro_rules | `(tactic| simpa $[[$args,*]]? using $e) => `(tactic| simpa -implicitDefEqProofs $[[$args,*]]? using $e)
theorem d__law_walk (A : Cs) (ds : List D) (P : Pf) (h : W__law_walk A ds P) : w__law_walk A (endsM [.F, .T [.F, .F, .K], .F] ds P) (zr [.F, .T [.F, .F, .K], .F] ds ++ List.replicate 5 none) := by
  obtain ⟨t, st, sg, x, n, rfl, ht, hx, ⟨hl, hn⟩, h⟩ := h
  unfold w__law_walk
  simp only [zr_c, zr_n, List.replicate_succ, List.replicate_zero, List.cons_append, List.nil_append]
  simp [cfD]
  refine ⟨fun m ρ => ∃ (y : Cf) (j : Nat) (e : Option D), ρ = [some (.F, tabL t), none, some (.F, .int n), some (.F, .int y.q), some (.F, .int y.p), some (.K, cD y.c), some (.F, .int j), fr e] ∧ m + j = n ∧ CfOk y st sg ∧ y.c.length ≤ 10000 + j ∧ runC t n x = (j + (runC t m y).1, (runC t m y).2), ⟨n, x, 0, none, by simp [fr, cD], rfl, hx, by omega, by simp⟩, ?_⟩
  rintro m ρ ⟨y, j, e, rfl, hm, hy, hc, hr⟩
  simp
  have hs := cAt_ok (p := y.p) hy.c0 ht.sg0
  have e1 := atI_row (g := rowL) ht hy.q0 hy.q1
  have e2 := atI_ent ht hy.q0 hy.q1 hs.1 hs.2
  have stop : runC t m y = (0, y) → P.ok (.new (.T [.T [.F, .F, .K], .F]), .tup [.tup [.int y.q, .int y.p, cD y.c], .int j]) [tabL t, .tup [.int x.q, .int x.p, cD x.c], .int n] := fun e0 => by
    rw [hr, e0] at h
    simpa [cfD, shotM] using h
  split
  · rename_i c
    cases e : entAt t y.q (cAt y.c y.p) with
    | none =>
      rw [e] at e2
      have e3 : stepC t y = none := by unfold stepC; rw [e]
      simp [tabL, e1, rowL, cD, getD_cK, e2, entD]
      exact stop (runC_n e3)
    | some en =>
      obtain ⟨w, r, s⟩ := en
      rw [e] at e2
      obtain ⟨y', e3⟩ := step_some e
      have ey : y' = ⟨s, if r then y.p + 1 else y.p - 1, if w = 0 then cDrop y.c y.p else cPut y.c y.p w⟩ := by
        unfold stepC at e3
        rw [e] at e3
        simp only [Option.some.injEq] at e3
        exact e3.symm
      obtain ⟨s1, s2, s3⟩ := step_ok ht hy e3
      obtain ⟨m', rfl⟩ : ∃ m', m = m' + 1 := ⟨m - 1, by omega⟩
      rw [runC_s e3] at hr
      simp [tabL, e1, rowL, cD, getD_cK, e2, entD, put_cK, cK_len]
      have ew : valD (cK (cPut y.c y.p w)) (.inl y.p) = some (.int w) := by rw [valD_cK, cGet_put]; rfl
      have wr : (wayS r = Str.ofString "r") ↔ r = true := by cases r <;> simp [wayS]
      have fin : ∀ (q' p' : Int) (c' : List (Key × D)) , q' = y'.q → p' = y'.p → c' = cK y'.c → ∃ m'_1, m'_1 < m' + 1 ∧ ∃ (y_1 : Cf) (j_1 : Nat), (q' = y_1.q ∧ p' = y_1.p ∧ c' = cK y_1.c ∧ (j : Int) + 1 = j_1) ∧ m'_1 + j_1 = n ∧ CfOk y_1 st sg ∧ y_1.c.length ≤ 10000 + j_1 ∧ runC t n x = (j_1 + (runC t m'_1 y_1).1, (runC t m'_1 y_1).2) := fun q' p' c' a1 a2 a3 =>
        ⟨m', by omega, y', j + 1, ⟨a1, a2, a3, by omega⟩, by omega, s1, by omega, by rw [hr]; simp; omega⟩
      refine ⟨by omega, ?_⟩
      by_cases cw : w = 0
      · rw [if_pos cw, ew]
        rw [if_pos cw] at ey
        simp only [optK_s]
        cases r
        · rw [if_neg (by rw [wr]; simp)]
          refine fin _ _ _ (by rw [ey]) (by rw [ey]; rfl) (by rw [ey, drop_cK, cDrop_put])
        · rw [if_pos (by rw [wr])]
          refine fin _ _ _ (by rw [ey]) (by rw [ey]; rfl) (by rw [ey, drop_cK, cDrop_put])
      · rw [if_neg cw]
        rw [if_neg cw] at ey
        cases r
        · rw [if_neg (by rw [wr]; simp)]
          refine fin _ _ _ (by rw [ey]) (by rw [ey]; rfl) (by rw [ey])
        · rw [if_pos (by rw [wr])]
          refine fin _ _ _ (by rw [ey]) (by rw [ey]; rfl) (by rw [ey])
  · rename_i c
    have : m = 0 := by omega
    subst this
    exact stop rfl
theorem lfast_i {A : Cs} {t : Tab} {st sg : Nat} {q w : Int} {l r : Row} {k : Nat} {z : Rb × Int × Nat} {P : Pf} (ht : TabOk t st sg) (hx : RbOk ⟨q, l, r, 0⟩ st sg) (hl : LenOk l r) (hk : k ≤ 10000) (e : fastS t k ⟨q, l, r, 0⟩ w = some z) (h : P.ok (.fz, resD z) [machD A t, stD q l r, .int w, .int k]) : W__law_fast A [machD A t, stD q l r, .int w, .int k] P := ⟨t, st, sg, q, l, r, w, k, rfl, ht, hx, hl, hk, by rw [e]; exact h⟩
theorem pd_st {n : Nat} {q : Int} {l r : Row} : pdK (n + 3) (stD q l r) = true := by
  have h1 := pd_row n l
  have h2 := pd_row n r
  simp [stD, h1, h2]
theorem cut_3 {a b c d : D} : VL.cutD [a, b, c, d] none (some 3) = [a, b, c] := by simp [VL.cutD, HT.sIx]
theorem row_sh {n : Nat} {r : Row} (h : r.length ≤ 90000) : ShB (n + 2) (rowSD r) = true := by
  have hz : ∀ x : D, x ∈ r.map celD → ShB (n + 1) x = true := fun x hx => by
    obtain ⟨y, _, rfl⟩ := List.mem_map.mp hx
    simp [celD, ShB]
  simp only [rowSD, ShB, List.length_map, Bool.and_eq_true, decide_eq_true_eq]
  exact ⟨h, List.all_eq_true.mpr hz⟩
theorem st_sh {n : Nat} {q : Int} {l r : Row} (h1 : l.length ≤ 90000) (h2 : r.length ≤ 90000) : ShB (n + 3) (stD q l r) = true := by
  simp [stD, ShB, row_sh h1, row_sh h2]
theorem shot_sh {n : Nat} {q p : Int} {m : Cells} (h : m.length ≤ 90000) : ShB (n + 3) (shotD q p m) = true := by
  have hz : ∀ x : D, x ∈ m.map markD → ShB (n + 1) x = true := fun x hx => by
    obtain ⟨y, _, rfl⟩ := List.mem_map.mp hx
    simp [markD, ShB]
  have hm : ShB (n + 2) (marksD m) = true := by
    rw [marksD_def]
    simp only [ShB, List.length_map, Bool.and_eq_true, decide_eq_true_eq]
    exact ⟨h, List.all_eq_true.mpr hz⟩
  simp [shotD, ShB, hm]
theorem fafter_i {A : Cs} {t : Tab} {st sg k : Nat} {w : Int} {z : Rb × Int × Nat} {P : Pf} (ht : TabOk t st sg) (hk : k ≤ 5000) (e : fastS t k rb0 w = some z) (hz : totS z.1.l + totS z.1.r ≤ 20000) (h : P.ok (.fz, .tup [shotD z.1.q z.1.m (marksR z.1), .int z.2.1]) [machD A t, .int w, .int k]) : W_fast_after A [machD A t, .int w, .int k] P := ⟨t, st, sg, w, k, rfl, ht, hk, by rw [e]; exact ⟨hz, h⟩⟩
theorem d__law_great_end (A : Cs) (ds : List D) (P : Pf) (h : W__law_great_end A ds P) : w__law_great_end A (endsOf [.F, .F, .F, .F] ds P) (zr [.F, .F, .F, .F] ds ++ List.replicate 3 none) := by
  obtain ⟨t, st, sg, q, l, r, w, c, rfl, ht, hx, hl, hc, h⟩ := h
  unfold w__law_great_end
  simp only [zr_c, zr_n, List.replicate_succ, List.replicate_zero, List.cons_append, List.nil_append]
  simp
  refine ⟨t, st, sg, q, l, r, w, 300, rfl, ht, hx, ⟨by omega, by omega⟩, by decide, ?_⟩
  cases e : fastS t 300 ⟨q, l, r, 0⟩ w with
  | none =>
    simp
    exact h
  | some z =>
    obtain ⟨y, d1, d2, l1, l2, p1, p2, p3, p4, p5⟩ := fast_split ht hx e hc.1 hc.2
    have q1 := p1 301 (by omega)
    have q2 := p2 301 (by omega)
    obtain ⟨k1, k2, k3, k4, k5, k6⟩ := fast_ok ht hx q1
    dsimp only at k1 k2 k3 k4 k5 k6
    have yo : y = offS ⟨y.q, y.l, y.r, 0⟩ y.m := by
      show y = ⟨y.q, y.l, y.r, 0 + y.m⟩
      rw [Int.zero_add]
    have q3 : ∃ z0 : Rb, fastS t 301 ⟨y.q, y.l, y.r, 0⟩ (w - c) = some (z0, d2, l2) ∧ z.1 = offS z0 y.m := by
      rw [yo, fast_off] at q2
      cases e : fastS t 301 ⟨y.q, y.l, y.r, 0⟩ (w - c) with
      | none => rw [e] at q2; cases q2
      | some u =>
        rw [e] at q2
        obtain ⟨u1, u2⟩ := u
        simp at q2
        exact ⟨u1, by rw [q2.2], q2.1.symm⟩
    obtain ⟨z0, q3, q4⟩ := q3
    have hy0 : RbOk ⟨y.q, y.l, y.r, 0⟩ st sg := ⟨k1.q, k1.l, k1.r⟩
    obtain ⟨m1, m2, m3, m4, m5, m6⟩ := fast_ok ht hy0 q3
    dsimp only at m1 m2 m3 m4 m5 m6
    have s1 : PyData.strOk (Str.ofString "too long") = true := by decide +kernel
    simp [resD, s1, pd_st]
    refine lfast_i (k := 301) ht hx ⟨by omega, by omega⟩ (by decide) q1 ?_
    simp [resD, s1, pd_st]
    refine lfast_i (k := 301) ht hy0 ⟨by omega, by omega⟩ (by decide) q3 ?_
    simp [resD, s1, pd_st, cut_3]
    have e1 : z.1.q = z0.q := by rw [q4]; rfl
    have e2 : z.1.l = z0.l := by rw [q4]; rfl
    have e3 : z.1.r = z0.r := by rw [q4]; rfl
    have e4 : z.1.m = y.m + z0.m := by rw [q4]; show z0.m + y.m = _; omega
    rw [e1, e2, e3, e4, ← p3]
    refine same_refl ?_ ?_
    · simp [ShB, st_sh (n := 1) (l := z0.l) (r := z0.r) (by omega) (by omega)]
    · simp
      exact h
theorem noD_row {n : Nat} {r : Row} : noD (n + 3) (rowSD r) = true := by
  unfold rowSD
  simp only [noD, List.all_map]
  exact List.all_eq_true.mpr fun x _ => by simp [celD, noD]
theorem noD_st {q : Int} {l r : Row} : noD 40 (stD q l r) = true := by
  unfold stD
  simp [noD, noD_row (n := 36)]
theorem run_len {t : Tab} {st sg : Nat} (ht : TabOk t st sg) : ∀ {n : Nat} {x : Cf}, CfOk x st sg → (runC t n x).2.c.length ≤ x.c.length + n
  | 0, x, _ => by simp [runC]
  | n + 1, x, hx => by
    cases e : stepC t x with
    | none => rw [runC_n e]; simp
    | some y =>
      rw [runC_s e]
      obtain ⟨h1, h2, _⟩ := step_ok ht hx e
      have := run_len ht (n := n) h1
      simp
      omega
theorem seen_len {sg : Nat} {y : Cf} (h : CelOk sg y.c) : (seenR y).l.length ≤ 2 * y.c.length ∧ (seenR y).r.length ≤ 2 * y.c.length := by
  have hsl := sortC_len h.n
  obtain ⟨_, _, l3, _⟩ := rowOf_ok (leftM_ok (p := y.p) (sortC_rise h.n) (sortC_v h))
  obtain ⟨_, _, l5, _⟩ := rowOf_ok (rightM_ok (p := y.p) (sortC_rise h.n) (sortC_v h))
  have hfl := List.length_filter_le (fun x : Int × Int => decide (x.1 < y.p)) (sortC y.c).reverse
  have hfr := List.length_filter_le (fun x : Int × Int => decide (y.p ≤ x.1)) (sortC y.c)
  rw [List.length_reverse] at hfl
  have lel : (leftM y.p (sortC y.c)).length ≤ y.c.length := by simp only [leftM, List.length_map]; omega
  have ler : (rightM y.p (sortC y.c)).length ≤ y.c.length := by simp only [rightM, List.length_map]; omega
  have el : (seenR y).l = rowOf (leftM y.p (sortC y.c)) := rfl
  have er : (seenR y).r = rowOf (rightM y.p (sortC y.c)) := rfl
  rw [el, er]
  omega
theorem d__law_stretch (A : Cs) (ds : List D) (P : Pf) (h : W__law_stretch A ds P) : w__law_stretch A (endsM [.F, .F, .T [.F, .F, .K], .F, .F] ds P) (zr [.F, .F, .T [.F, .F, .K], .F, .F] ds ++ List.replicate 3 none) := by
  obtain ⟨t, st, sg, y, n, rfl, ht, hy, hn, h⟩ := h
  unfold w__law_stretch
  simp only [zr_c, zr_n, List.replicate_succ, List.replicate_zero, List.cons_append, List.nil_append]
  simp [cfD]
  refine ⟨t, st, sg, y, n, rfl, ht, hy.1, ⟨by have := hy.2.2; omega, by omega⟩, ?_⟩
  obtain ⟨f1, f2, f3, f4⟩ := fastC ht hy (n : Int)
  rw [Int.toNat_natCast] at f3
  have hcut := cutR_le (l := rowC t n y) (p := none)
  rw [row_of.1] at hcut
  have hle := run_le0 (t := t) (m := n) (x := y)
  have g3 := f3 n (by omega)
  have hl' := run_len (t := t) (n := n) ht hy.1
  have hy' : CelOk sg (runC t n y).2.c ∧ (runC t n y).2.c.length ≤ 10000 := ⟨run_cel ht hy.1 hy.2.1, by have := hy.2.2; omega⟩
  have hzl := seen_len hy'.1
  generalize hz : (runC t n y).2 = z at *
  generalize hd : (runC t n y).1 = d at *
  simp [shotM, cfD]
  have hq : (seenR y).q = y.q := rfl
  rw [hq] at g3 f1
  refine lfast_i (k := n) ht f1 ⟨by omega, by omega⟩ (by omega) g3 ?_
  have s1 : PyData.strOk (Str.ofString "too long") = true := by decide +kernel
  simp [resD, s1, pd_st, rbAt, cut_3]
  obtain ⟨c1, c2⟩ := hy'
  refine ⟨rfl, z, sg, rfl, c1, c2, ?_⟩
  have hqz : (seenR z).q = z.q := rfl
  simp [noD_st, hqz]
  refine same_refl ?_ ?_
  · simp [ShB, st_sh (n := 1) (l := (seenR z).l) (r := (seenR z).r) (by omega) (by omega)]
  · simp
    rw [if_pos (by omega)]
    exact h
theorem run_cf {t : Tab} {st sg : Nat} (ht : TabOk t st sg) : ∀ {n : Nat} {x : Cf}, CfOk x st sg → CfOk (runC t n x).2 st sg
  | 0, x, h => h
  | n + 1, x, hx => by
    cases e : stepC t x with
    | none => rw [runC_n e]; exact hx
    | some y =>
      rw [runC_s e]
      exact run_cf ht (step_ok ht hx e).1
theorem run_done {t : Tab} : ∀ {n : Nat} {y : Cf}, runC t (runC t n y).1 y = runC t n y
  | 0, y => by simp [runC]
  | n + 1, y => by
    cases e : stepC t y with
    | none => rw [runC_n e]; simp [runC, e]
    | some z =>
      rw [runC_s e]
      show runC t ((runC t n z).1 + 1) y = _
      rw [runC_s e, run_done]
theorem run_on {t : Tab} {a n : Nat} (h : (runC t a cf0).1 = a) : runC t (a + (runC t n (runC t a cf0).2).1) cf0 = (a + (runC t n (runC t a cf0).2).1, (runC t n (runC t a cf0).2).2) := by
  rw [runC_add h, run_done]
theorem seen0 : seenR cf0 = ⟨0, [], [], 0⟩ := by
  have : sortC cf0.c = [] := by simp [cf0, sortC]
  unfold seenR
  rw [this]
  rfl
theorem cutD_sub {xs : List D} {a b : Option Int} : (VL.cutD xs a b).length ≤ xs.length ∧ ∀ y ∈ VL.cutD xs a b, y ∈ xs := by
  unfold VL.cutD
  refine ⟨?_, fun y hy => ?_⟩
  · simp only [List.length_take, List.length_drop]
    omega
  · first | exact List.mem_of_mem_drop (List.mem_of_mem_take hy) | exact List.mem_of_mem_take (List.mem_of_mem_drop hy)
theorem d_law (A : Cs) (ds : List D) (P : Pf) (h : W_law A ds P) : w_law A (endsOf [.F] ds P) (zr [.F] ds ++ List.replicate 11 none) := by
  obtain ⟨ns, rfl, hl, h⟩ := h
  unfold w_law
  simp only [zr_c, zr_n, List.replicate_succ, List.replicate_zero, List.cons_append, List.nil_append]
  simp
  refine ⟨ns, 0, rfl, ⟨by decide, by decide⟩, fun t st sg a' ht hst hsg h1 h2 => ?_⟩
  simp
  refine mach_i ht ?_
  simp
  have hcf : ∀ k, CfOk (runC t k cf0).2 st sg ∧ CelOk sg (runC t k cf0).2.c ∧ (runC t k cf0).2.c.length ≤ k := fun k => by
    have c0 := cf0_ok ht
    refine ⟨run_cf ht c0, run_cel ht c0 ⟨by simp [cf0], fun x hx => (nomatch hx)⟩, ?_⟩
    have := run_len ht (n := k) c0
    have z : cf0.c.length = 0 := rfl
    omega
  refine for_inv (fun i r => ∃ (a : Int) (tot : Nat) (x y z : Option D), r = [some (.F, .scr ns), some (.L .F, .lst [.int a]), some (.F, tabL t), some (.F, machD A t), some (.T [.F, .F, .K], cfD (runC t tot cf0).2), some (.F, stD (runC t tot cf0).2.q (seenR (runC t tot cf0).2).l (seenR (runC t tot cf0).2).r), some (.F, .int tot), fr x, fr y, fr z, none, none] ∧ (0 ≤ a ∧ a ≤ 20000 + i) ∧ (runC t tot cf0).1 = tot ∧ tot ≤ 300) ⟨a', 0, none, none, none, ?_, ⟨h1, by omega⟩, rfl, by decide⟩ ?_ ?_
  · have e0 : (runC t 0 cf0).2 = cf0 := rfl
    rw [e0, seen0]
    simp [fr, cfD, cf0, cD, cK, stD, rowSD]
  · rintro r ⟨a, tot, x, y, z, rfl, ha, htot, hle⟩
    have hlen : (enumD (VL.cutD (ns.map D.int) none (some 63))).length ≤ 63 := by
      rw [enumD_len]
      have := (cutD_sub (xs := ns.map D.int) (a := none) (b := some 63)).1
      rw [List.length_map] at this
      omega
    obtain ⟨y1, y2, y3⟩ := hcf tot
    obtain ⟨f1, f2, f3, f4⟩ := fastC ht (N := tot) ⟨y1, y2, by omega⟩ (0 : Int)
    simp
    refine ⟨ns, a, rfl, ⟨by omega, by omega⟩, fun far hf => ?_⟩
    simp
    refine ⟨ns, a + 1, rfl, ⟨by omega, by omega⟩, fun cc hc => ?_⟩
    simp
    refine ⟨by omega, ?_⟩
    refine ⟨t, st, sg, _, _, _, far, _, rfl, ht, f1, ⟨by omega, by omega⟩, ⟨Int.emod_nonneg _ (by omega), by have := Int.emod_lt_of_pos cc (b := far + 1) (by omega); omega⟩, ?_⟩
    simp
    exact h
  · rintro i d r hd ⟨a, tot, x, y, z, rfl, ha, htot, hle⟩
    obtain ⟨q, hq, rfl⟩ := enumD_get hd
    have hqm := (cutD_sub (xs := ns.map D.int)).2 q (List.mem_of_getElem? hq)
    obtain ⟨cell, _, rfl⟩ := List.mem_map.mp hqm
    have hi63 : i < 63 := by
      have := (List.getElem?_eq_some_iff.mp hq).1
      have h2 := (cutD_sub (xs := ns.map D.int) (a := none) (b := some 63)).1
      rw [List.length_map] at h2
      omega
    obtain ⟨y1, y2, y3⟩ := hcf tot
    simp
    refine ⟨⟨by omega, by omega⟩, fun m hm0 hm1 => ?_⟩
    obtain ⟨n, hn⟩ : ∃ n : Nat, (if 300 - (tot : Int) < (cell % 97 + m) % 18 then 300 - (tot : Int) else (cell % 97 + m) % 18) = n := ⟨(if 300 - (tot : Int) < (cell % 97 + m) % 18 then 300 - (tot : Int) else (cell % 97 + m) % 18).toNat, by split <;> omega⟩
    rw [hn]
    have hn2 : n ≤ 20 ∧ tot + n ≤ 300 := by
      split at hn
      · omega
      · omega
    refine ⟨t, st, sg, _, n, rfl, ht, ⟨y1, y2, by omega⟩, hn2.1, ?_⟩
    have hrun := run_on (t := t) (n := n) htot
    have hle2 := run_le0 (t := t) (m := n) (x := (runC t tot cf0).2)
    generalize hd' : (runC t n (runC t tot cf0).2).1 = d at *
    have e1 : (runC t n (runC t tot cf0).2).2 = (runC t (tot + d) cf0).2 := by rw [hrun]
    have e2 : (runC t (tot + d) cf0).1 = tot + d := by rw [hrun]
    rw [e1]
    obtain ⟨u1, u2, u3⟩ := hcf (tot + d)
    have e3 : (tot : Int) + (d : Int) = ((tot + d : Nat) : Int) := by omega
    have hK3 : tot + d ≤ 300 := by omega
    generalize hK : tot + d = K at *
    simp [shotM]
    rw [partK_T rfl]
    refine ⟨rfl, by simp [okSlot], by simp [okSlot], by simp [okSlot], .F, tot, rfl, ?_⟩
    simp only [e3, List.set_cons_succ, List.set_cons_zero]
    simp
    have hshot : noDK (Kd.fz, shotC (runC t K cf0).2) = true := by
      simp only [noDK, shotC, shotD, marksD, noD, List.all_cons, List.all_nil, List.all_map, Bool.and_true, Bool.true_and]
      exact List.all_eq_true.mpr fun x _ => by simp [noD]
    have hcl : (sortC (runC t K cf0).2.c).length ≤ 90000 := by rw [sortC_len u2.n]; omega
    split
    · obtain ⟨k1, k2⟩ := fast0 ht (K : Int) (by omega)
      rw [Int.toNat_natCast] at k1
      have hcut := cutR_le (l := rowC t K cf0) (p := none)
      rw [row_of.1] at hcut
      obtain ⟨z1, f1, f2, f3, f4⟩ := k1 5000 (by omega)
      rw [e2] at f2
      refine fafter_i (k := 5000) ht (by decide) f1 f3 ?_
      rw [f4, f2]
      simp
      refine ⟨rfl, lshot_i u2.n (by omega) ?_⟩
      simp [hshot]
      have sh : ShB 5 (.tup [shotC (runC t K cf0).2, .int K]) = true := by
        have : ShB 4 (shotC (runC t K cf0).2) = true := shot_sh hcl
        simp [ShB, this]
      refine ⟨hshot, same_refl sh ?_⟩
      simp
      exact ⟨a + 1, K, ⟨rfl, rfl, rfl, rfl⟩, ⟨by omega, by omega⟩, e2, by omega⟩
    · exact ⟨a + 1, K, ⟨rfl, rfl, rfl, rfl⟩, ⟨by omega, by omega⟩, e2, by omega⟩
end My

namespace My
open PySem PySem.Spec PyProof.Rows L2 VL
def top (i : Nat) : Stmt := PySem.Challenge.pw_tapeproof_k91_whole_fast.main.body.getD i (.Pass ⟨0, 0, 0, 0⟩)
abbrev s_is_number : Stmt := top 6
theorem sc_is_number : FnScope ["thing", "many"] ["thing", "many"] (defScope s_is_number) := ⟨rfl, rfl, rfl, by decide +kernel, rfl, by decide +kernel, by decide +kernel⟩
abbrev s_entry_kept : Stmt := top 7
theorem sc_entry_kept : FnScope ["entry", "states", "signs", "write", "way", "later"] ["entry", "states", "signs"] (defScope s_entry_kept) := ⟨rfl, rfl, rfl, by decide +kernel, rfl, by decide +kernel, by decide +kernel⟩
abbrev s_Machine_init : Stmt := inClass (top 8) 0
theorem sc_Machine_init : FnScope ["self", "table", "states", "signs", "made", "line", "entry"] ["self", "table"] (defScope s_Machine_init) := ⟨rfl, rfl, rfl, by decide +kernel, rfl, by decide +kernel, by decide +kernel⟩
abbrev s_states_of : Stmt := top 9
theorem sc_states_of : FnScope ["machine"] ["machine"] (defScope s_states_of) := ⟨rfl, rfl, rfl, by decide +kernel, rfl, by decide +kernel, by decide +kernel⟩
abbrev s_signs_of : Stmt := top 10
theorem sc_signs_of : FnScope ["machine"] ["machine"] (defScope s_signs_of) := ⟨rfl, rfl, rfl, by decide +kernel, rfl, by decide +kernel, by decide +kernel⟩
abbrev s_ask_row : Stmt := top 12
theorem sc_ask_row : FnScope ["row", "last", "sign", "count"] ["row"] (defScope s_ask_row) := ⟨rfl, rfl, rfl, by decide +kernel, rfl, by decide +kernel, by decide +kernel⟩
abbrev s_ask_stretches : Stmt := top 13
theorem sc_ask_stretches : FnScope ["stretches", "state", "left", "right"] ["stretches"] (defScope s_ask_stretches) := ⟨rfl, rfl, rfl, by decide +kernel, rfl, by decide +kernel, by decide +kernel⟩
abbrev s_marks_along : Stmt := top 14
theorem sc_marks_along : FnScope ["row", "start", "way", "marks", "spot", "sign", "count", "k"] ["row", "start", "way"] (defScope s_marks_along) := ⟨rfl, rfl, rfl, by decide +kernel, rfl, by decide +kernel, by decide +kernel⟩
abbrev s_shot_of : Stmt := top 15
theorem sc_shot_of : FnScope ["stretches", "place", "state", "left", "right", "ahead"] ["stretches", "place"] (defScope s_shot_of) := ⟨rfl, rfl, rfl, by decide +kernel, rfl, by decide +kernel, by decide +kernel⟩
abbrev s_put : Stmt := top 17
theorem sc_put : FnScope ["row", "sign", "count"] ["row", "sign", "count"] (defScope s_put) := ⟨rfl, rfl, rfl, by decide +kernel, rfl, by decide +kernel, by decide +kernel⟩
abbrev s_drop : Stmt := top 18
theorem sc_drop : FnScope ["row", "count", "sign", "many"] ["row", "count"] (defScope s_drop) := ⟨rfl, rfl, rfl, by decide +kernel, rfl, by decide +kernel, by decide +kernel⟩
abbrev s_near_sign : Stmt := top 19
theorem sc_near_sign : FnScope ["row"] ["row"] (defScope s_near_sign) := ⟨rfl, rfl, rfl, by decide +kernel, rfl, by decide +kernel, by decide +kernel⟩
abbrev s_near_count : Stmt := top 20
theorem sc_near_count : FnScope ["row", "sign", "wanted"] ["row", "sign", "wanted"] (defScope s_near_count) := ⟨rfl, rfl, rfl, by decide +kernel, rfl, by decide +kernel, by decide +kernel⟩
abbrev s_Ribbon_init : Stmt := inClass (top 21) 0
theorem sc_Ribbon_init : FnScope ["self", "machine", "stretches"] ["self", "machine", "stretches"] (defScope s_Ribbon_init) := ⟨rfl, rfl, rfl, by decide +kernel, rfl, by decide +kernel, by decide +kernel⟩
abbrev s_Ribbon_entry : Stmt := inClass (top 21) 1
theorem sc_Ribbon_entry : FnScope ["self"] ["self"] (defScope s_Ribbon_entry) := ⟨rfl, rfl, rfl, by decide +kernel, rfl, by decide +kernel, by decide +kernel⟩
abbrev s_Ribbon_leap : Stmt := inClass (top 21) 2
theorem sc_Ribbon_leap : FnScope ["self", "wanted", "write", "way", "later", "sign", "steps", "read"] ["self", "wanted"] (defScope s_Ribbon_leap) := ⟨rfl, rfl, rfl, by decide +kernel, rfl, by decide +kernel, by decide +kernel⟩
abbrev s_Ribbon_told : Stmt := inClass (top 21) 3
theorem sc_Ribbon_told : FnScope ["self"] ["self"] (defScope s_Ribbon_told) := ⟨rfl, rfl, rfl, by decide +kernel, rfl, by decide +kernel, by decide +kernel⟩
abbrev s_ask_for : Stmt := top 22
theorem sc_ask_for : FnScope ["machine", "stretches", "sign", "count"] ["machine", "stretches"] (defScope s_ask_for) := ⟨rfl, rfl, rfl, by decide +kernel, rfl, by decide +kernel, by decide +kernel⟩
abbrev s_fast_from : Stmt := top 23
theorem sc_fast_from : FnScope ["machine", "stretches", "steps", "most", "ribbon", "done", "leaps"] ["machine", "stretches", "steps", "most"] (defScope s_fast_from) := ⟨rfl, rfl, rfl, by decide +kernel, rfl, by decide +kernel, by decide +kernel⟩
abbrev s_fast_after : Stmt := top 24
theorem sc_fast_after : FnScope ["machine", "steps", "most", "stretches", "moved", "done", "leaps"] ["machine", "steps", "most"] (defScope s_fast_after) := ⟨rfl, rfl, rfl, by decide +kernel, rfl, by decide +kernel, by decide +kernel⟩
abbrev s__law_next : Stmt := top 26
theorem sc__law_next : FnScope ["_law_script", "_law_at", "_law_cell", "_law_m"] ["_law_script", "_law_at"] (defScope s__law_next) := ⟨rfl, rfl, rfl, by decide +kernel, rfl, by decide +kernel, by decide +kernel⟩
abbrev s__law_same : Stmt := top 27
theorem sc__law_same : FnScope ["_law_found", "_law_due", "_law_a", "_law_b"] ["_law_found", "_law_due"] (defScope s__law_same) := ⟨rfl, rfl, rfl, by decide +kernel, rfl, by decide +kernel, by decide +kernel⟩
abbrev s__law_table : Stmt := top 28
theorem sc__law_table : FnScope ["_law_script", "_law_at", "_law_states", "_law_signs", "_law_table_here", "_law_k", "_law_line", "_law_j", "_law_m", "_law_entry"] ["_law_script", "_law_at", "_law_states", "_law_signs"] (defScope s__law_table) := ⟨rfl, rfl, rfl, by decide +kernel, rfl, by decide +kernel, by decide +kernel⟩
abbrev s__law_shot : Stmt := top 29
theorem sc__law_shot : FnScope ["_law_shot_here", "_law_state", "_law_place", "_law_cells", "_law_spot"] ["_law_shot_here"] (defScope s__law_shot) := ⟨rfl, rfl, rfl, by decide +kernel, rfl, by decide +kernel, by decide +kernel⟩
abbrev s__law_machine_by : Stmt := top 30
theorem sc__law_machine_by : FnScope ["_law_script", "_law_at", "_law_m", "_law_states", "_law_signs", "_law_table_here", "_law_k", "_law_j"] ["_law_script", "_law_at"] (defScope s__law_machine_by) := ⟨rfl, rfl, rfl, by decide +kernel, rfl, by decide +kernel, by decide +kernel⟩
abbrev s__law_seen : Stmt := top 31
theorem sc__law_seen : FnScope ["_law_shot_here", "_law_state", "_law_place", "_law_cells", "_law_rows", "_law_which", "_law_way", "_law_spot", "_law_spots", "_law_last", "_law_off", "_law_sign"] ["_law_shot_here"] (defScope s__law_seen) := ⟨rfl, rfl, rfl, by decide +kernel, rfl, by decide +kernel, by decide +kernel⟩
abbrev s__law_fast : Stmt := top 32
theorem sc__law_fast : FnScope ["_law_machine", "_law_stretches", "_law_steps", "_law_most", "_law_told"] ["_law_machine", "_law_stretches", "_law_steps", "_law_most"] (defScope s__law_fast) := ⟨rfl, rfl, rfl, by decide +kernel, rfl, by decide +kernel, by decide +kernel⟩
abbrev s__law_far : Stmt := top 33
theorem sc__law_far : FnScope ["_law_script", "_law_at", "_law_m", "_law_cell", "_law_size", "_law_k"] ["_law_script", "_law_at"] (defScope s__law_far) := ⟨rfl, rfl, rfl, by decide +kernel, rfl, by decide +kernel, by decide +kernel⟩
abbrev s__law_walk : Stmt := top 34
theorem sc__law_walk : FnScope ["_law_table_here", "_law_shot_here", "_law_steps", "_law_state", "_law_place", "_law_cells", "_law_done", "_law_entry"] ["_law_table_here", "_law_shot_here", "_law_steps"] (defScope s__law_walk) := ⟨rfl, rfl, rfl, by decide +kernel, rfl, by decide +kernel, by decide +kernel⟩
abbrev s__law_great_end : Stmt := top 35
theorem sc__law_great_end : FnScope ["_law_machine", "_law_stretches", "_law_far_here", "_law_cut", "_law_due", "_law_one", "_law_other"] ["_law_machine", "_law_stretches", "_law_far_here", "_law_cut"] (defScope s__law_great_end) := ⟨rfl, rfl, rfl, by decide +kernel, rfl, by decide +kernel, by decide +kernel⟩
abbrev s__law_stretch : Stmt := top 36
theorem sc__law_stretch : FnScope ["_law_machine", "_law_table_here", "_law_shot_here", "_law_stretches", "_law_steps", "_law_place", "_law_done", "_law_found"] ["_law_machine", "_law_table_here", "_law_shot_here", "_law_stretches", "_law_steps"] (defScope s__law_stretch) := ⟨rfl, rfl, rfl, by decide +kernel, rfl, by decide +kernel, by decide +kernel⟩
abbrev s_law : Stmt := top 37
theorem sc_law : FnScope ["_law_script", "_law_at", "_law_table_here", "_law_machine", "_law_shot_here", "_law_stretches", "_law_total", "_law_k", "_law_cell", "_law_steps", "_law_made", "_law_far_here"] ["_law_script"] (defScope s_law) := ⟨rfl, rfl, rfl, by decide +kernel, rfl, by decide +kernel, by decide +kernel⟩
structure Ad where
  A : Cs
  a_is_number : Addr
  d_is_number : FuncData
  a_entry_kept : Addr
  d_entry_kept : FuncData
  a_Machine_init : Addr
  d_Machine_init : FuncData
  a_states_of : Addr
  d_states_of : FuncData
  a_signs_of : Addr
  d_signs_of : FuncData
  a_ask_row : Addr
  d_ask_row : FuncData
  a_ask_stretches : Addr
  d_ask_stretches : FuncData
  a_marks_along : Addr
  d_marks_along : FuncData
  a_shot_of : Addr
  d_shot_of : FuncData
  a_put : Addr
  d_put : FuncData
  a_drop : Addr
  d_drop : FuncData
  a_near_sign : Addr
  d_near_sign : FuncData
  a_near_count : Addr
  d_near_count : FuncData
  a_Ribbon_init : Addr
  d_Ribbon_init : FuncData
  a_Ribbon_entry : Addr
  d_Ribbon_entry : FuncData
  a_Ribbon_leap : Addr
  d_Ribbon_leap : FuncData
  a_Ribbon_told : Addr
  d_Ribbon_told : FuncData
  a_ask_for : Addr
  d_ask_for : FuncData
  a_fast_from : Addr
  d_fast_from : FuncData
  a_fast_after : Addr
  d_fast_after : FuncData
  e2_fast_after : List Value
  a__law_next : Addr
  d__law_next : FuncData
  a__law_same : Addr
  d__law_same : FuncData
  a__law_table : Addr
  d__law_table : FuncData
  a__law_shot : Addr
  d__law_shot : FuncData
  a__law_machine_by : Addr
  d__law_machine_by : FuncData
  a__law_seen : Addr
  d__law_seen : FuncData
  a__law_fast : Addr
  d__law_fast : FuncData
  a__law_far : Addr
  d__law_far : FuncData
  a__law_walk : Addr
  d__law_walk : FuncData
  a__law_great_end : Addr
  d__law_great_end : FuncData
  a__law_stretch : Addr
  d__law_stretch : FuncData
  a_law : Addr
  d_law : FuncData
structure Txt (K : PySem.W.Frag) (mg : Str → Option Value) (D : Ad) : Prop where
  n_all : mg "all" = none
  n_bool : mg "bool" = none
  n_enumerate : mg "enumerate" = none
  n_int : mg "int" = none
  n_isinstance : mg "isinstance" = none
  n_len : mg "len" = none
  n_list : mg "list" = none
  n_min : mg "min" = none
  n_range : mg "range" = none
  n_reversed : mg "reversed" = none
  n_sorted : mg "sorted" = none
  n_str : mg "str" = none
  n_tuple : mg "tuple" = none
  n_zip : mg "zip" = none
  F_is_number : Fun K "is_number" "is_number" s_is_number D.a_is_number D.d_is_number
  b_is_number : Binds K D.d_is_number ["thing", "many"] []
  m_is_number : mg "is_number" = some (.ref D.a_is_number)
  F_entry_kept : Fun K "entry_kept" "entry_kept" s_entry_kept D.a_entry_kept D.d_entry_kept
  b_entry_kept : Binds K D.d_entry_kept ["entry", "states", "signs"] []
  m_entry_kept : mg "entry_kept" = some (.ref D.a_entry_kept)
  F_Machine_init : Fun K "__init__" "Machine.__init__" s_Machine_init D.a_Machine_init D.d_Machine_init
  b_Machine_init : Binds K D.d_Machine_init ["self", "table"] []
  F_states_of : Fun K "states_of" "states_of" s_states_of D.a_states_of D.d_states_of
  b_states_of : Binds K D.d_states_of ["machine"] []
  m_states_of : mg "states_of" = some (.ref D.a_states_of)
  F_signs_of : Fun K "signs_of" "signs_of" s_signs_of D.a_signs_of D.d_signs_of
  b_signs_of : Binds K D.d_signs_of ["machine"] []
  m_signs_of : mg "signs_of" = some (.ref D.a_signs_of)
  F_ask_row : Fun K "ask_row" "ask_row" s_ask_row D.a_ask_row D.d_ask_row
  b_ask_row : Binds K D.d_ask_row ["row"] []
  m_ask_row : mg "ask_row" = some (.ref D.a_ask_row)
  F_ask_stretches : Fun K "ask_stretches" "ask_stretches" s_ask_stretches D.a_ask_stretches D.d_ask_stretches
  b_ask_stretches : Binds K D.d_ask_stretches ["stretches"] []
  m_ask_stretches : mg "ask_stretches" = some (.ref D.a_ask_stretches)
  F_marks_along : Fun K "marks_along" "marks_along" s_marks_along D.a_marks_along D.d_marks_along
  b_marks_along : Binds K D.d_marks_along ["row", "start", "way"] []
  m_marks_along : mg "marks_along" = some (.ref D.a_marks_along)
  F_shot_of : Fun K "shot_of" "shot_of" s_shot_of D.a_shot_of D.d_shot_of
  b_shot_of : Binds K D.d_shot_of ["stretches", "place"] []
  m_shot_of : mg "shot_of" = some (.ref D.a_shot_of)
  F_put : Fun K "put" "put" s_put D.a_put D.d_put
  b_put : Binds K D.d_put ["row", "sign", "count"] []
  m_put : mg "put" = some (.ref D.a_put)
  F_drop : Fun K "drop" "drop" s_drop D.a_drop D.d_drop
  b_drop : Binds K D.d_drop ["row", "count"] []
  m_drop : mg "drop" = some (.ref D.a_drop)
  F_near_sign : Fun K "near_sign" "near_sign" s_near_sign D.a_near_sign D.d_near_sign
  b_near_sign : Binds K D.d_near_sign ["row"] []
  m_near_sign : mg "near_sign" = some (.ref D.a_near_sign)
  F_near_count : Fun K "near_count" "near_count" s_near_count D.a_near_count D.d_near_count
  b_near_count : Binds K D.d_near_count ["row", "sign", "wanted"] []
  m_near_count : mg "near_count" = some (.ref D.a_near_count)
  F_Ribbon_init : Fun K "__init__" "Ribbon.__init__" s_Ribbon_init D.a_Ribbon_init D.d_Ribbon_init
  b_Ribbon_init : Binds K D.d_Ribbon_init ["self", "machine", "stretches"] []
  F_Ribbon_entry : Fun K "entry" "Ribbon.entry" s_Ribbon_entry D.a_Ribbon_entry D.d_Ribbon_entry
  b_Ribbon_entry : Binds K D.d_Ribbon_entry ["self"] []
  me_Ribbon_entry : Meth K D.A.C_Ribbon "entry" D.a_Ribbon_entry
  F_Ribbon_leap : Fun K "leap" "Ribbon.leap" s_Ribbon_leap D.a_Ribbon_leap D.d_Ribbon_leap
  b_Ribbon_leap : Binds K D.d_Ribbon_leap ["self", "wanted"] []
  me_Ribbon_leap : Meth K D.A.C_Ribbon "leap" D.a_Ribbon_leap
  F_Ribbon_told : Fun K "told" "Ribbon.told" s_Ribbon_told D.a_Ribbon_told D.d_Ribbon_told
  b_Ribbon_told : Binds K D.d_Ribbon_told ["self"] []
  me_Ribbon_told : Meth K D.A.C_Ribbon "told" D.a_Ribbon_told
  F_ask_for : Fun K "ask_for" "ask_for" s_ask_for D.a_ask_for D.d_ask_for
  b_ask_for : Binds K D.d_ask_for ["machine", "stretches"] []
  m_ask_for : mg "ask_for" = some (.ref D.a_ask_for)
  F_fast_from : Fun K "fast_from" "fast_from" s_fast_from D.a_fast_from D.d_fast_from
  b_fast_from : Binds K D.d_fast_from ["machine", "stretches", "steps", "most"] []
  m_fast_from : mg "fast_from" = some (.ref D.a_fast_from)
  F_fast_after : FunD K "fast_after" "fast_after" (defArgs s_fast_after) (defBody s_fast_after) (defScope s_fast_after) [.int 5000] [] D.a_fast_after D.d_fast_after
  v2_fast_after : Vals [.int 5000] D.e2_fast_after
  b2_fast_after : Binds K D.d_fast_after ["machine", "steps", "most"] D.e2_fast_after
  b_fast_after : Binds K D.d_fast_after ["machine", "steps", "most"] []
  m_fast_after : mg "fast_after" = some (.ref D.a_fast_after)
  F__law_next : Fun K "_law_next" "_law_next" s__law_next D.a__law_next D.d__law_next
  b__law_next : Binds K D.d__law_next ["_law_script", "_law_at"] []
  m__law_next : mg "_law_next" = some (.ref D.a__law_next)
  F__law_same : Fun K "_law_same" "_law_same" s__law_same D.a__law_same D.d__law_same
  b__law_same : Binds K D.d__law_same ["_law_found", "_law_due"] []
  m__law_same : mg "_law_same" = some (.ref D.a__law_same)
  F__law_table : Fun K "_law_table" "_law_table" s__law_table D.a__law_table D.d__law_table
  b__law_table : Binds K D.d__law_table ["_law_script", "_law_at", "_law_states", "_law_signs"] []
  m__law_table : mg "_law_table" = some (.ref D.a__law_table)
  F__law_shot : Fun K "_law_shot" "_law_shot" s__law_shot D.a__law_shot D.d__law_shot
  b__law_shot : Binds K D.d__law_shot ["_law_shot_here"] []
  m__law_shot : mg "_law_shot" = some (.ref D.a__law_shot)
  F__law_machine_by : Fun K "_law_machine_by" "_law_machine_by" s__law_machine_by D.a__law_machine_by D.d__law_machine_by
  b__law_machine_by : Binds K D.d__law_machine_by ["_law_script", "_law_at"] []
  m__law_machine_by : mg "_law_machine_by" = some (.ref D.a__law_machine_by)
  F__law_seen : Fun K "_law_seen" "_law_seen" s__law_seen D.a__law_seen D.d__law_seen
  b__law_seen : Binds K D.d__law_seen ["_law_shot_here"] []
  m__law_seen : mg "_law_seen" = some (.ref D.a__law_seen)
  F__law_fast : Fun K "_law_fast" "_law_fast" s__law_fast D.a__law_fast D.d__law_fast
  b__law_fast : Binds K D.d__law_fast ["_law_machine", "_law_stretches", "_law_steps", "_law_most"] []
  m__law_fast : mg "_law_fast" = some (.ref D.a__law_fast)
  F__law_far : Fun K "_law_far" "_law_far" s__law_far D.a__law_far D.d__law_far
  b__law_far : Binds K D.d__law_far ["_law_script", "_law_at"] []
  m__law_far : mg "_law_far" = some (.ref D.a__law_far)
  F__law_walk : Fun K "_law_walk" "_law_walk" s__law_walk D.a__law_walk D.d__law_walk
  b__law_walk : Binds K D.d__law_walk ["_law_table_here", "_law_shot_here", "_law_steps"] []
  m__law_walk : mg "_law_walk" = some (.ref D.a__law_walk)
  F__law_great_end : Fun K "_law_great_end" "_law_great_end" s__law_great_end D.a__law_great_end D.d__law_great_end
  b__law_great_end : Binds K D.d__law_great_end ["_law_machine", "_law_stretches", "_law_far_here", "_law_cut"] []
  m__law_great_end : mg "_law_great_end" = some (.ref D.a__law_great_end)
  F__law_stretch : Fun K "_law_stretch" "_law_stretch" s__law_stretch D.a__law_stretch D.d__law_stretch
  b__law_stretch : Binds K D.d__law_stretch ["_law_machine", "_law_table_here", "_law_shot_here", "_law_stretches", "_law_steps"] []
  m__law_stretch : mg "_law_stretch" = some (.ref D.a__law_stretch)
  F_law : Fun K "law" "law" s_law D.a_law D.d_law
  b_law : Binds K D.d_law ["_law_script"] []
  m_law : mg "law" = some (.ref D.a_law)
  m_Machine : mg "Machine" = some (.ref D.A.C_Machine)
  cl_Machine : Cls K D.A.C_Machine
  mk_Machine : L2.Mk K D.A.C_Machine D.a_Machine_init
  na_Machine_table : NoAttr K D.A.C_Machine "table"
  m_Ribbon : mg "Ribbon" = some (.ref D.A.C_Ribbon)
  cl_Ribbon : Cls K D.A.C_Ribbon
  mk_Ribbon : L2.Mk K D.A.C_Ribbon D.a_Ribbon_init
  na_Ribbon_left : NoAttr K D.A.C_Ribbon "left"
  na_Ribbon_moved : NoAttr K D.A.C_Ribbon "moved"
  na_Ribbon_now : NoAttr K D.A.C_Ribbon "now"
  na_Ribbon_right : NoAttr K D.A.C_Ribbon "right"
  na_Ribbon_table : NoAttr K D.A.C_Ribbon "table"
  m_TooLong : mg "TooLong" = some (.ref D.A.C_TooLong)
  rs_TooLong : RsC K D.A.C_TooLong
  xm_TooLong_TooLong : PySem.W.exmOne K (.ref D.A.C_TooLong) (.ref D.A.C_TooLong) = some true
section
variable {P : Program} {w : World} {K : PySem.W.Frag} {mg : Str → Option Value} {base : Heap} {D : Ad}
theorem ok_is_number (T : Txt K mg D) : FnOk P w K mg base (L2.CX P w) 1 D.a_is_number D.d_is_number ["thing", "many"] (spV K [.F, .F] [.F, .F] (W_is_number D.A)) := by
  refine fn_ok T.F_is_number sc_is_number rfl rfl (by decide) (w' := w_is_number D.A) (fun cdv A outer s H E hr => ?_) (fun ds P hl h => d_is_number D.A ds P h)
  unfold w_is_number
  exact qs_one (q_ret (q_and (q_isi "int" T.n_isinstance T.n_int (q_var 0)) (q_and (q_notV (q_isi "bool" T.n_isinstance T.n_bool (q_var 0))) (q_one (q_chain op_le op_lt ok_B0 ok_B0 (q_int) (q_var 0) (q_var 1))))))
theorem ok_entry_kept (T : Txt K mg D) : FnOk P w K mg base (L2.CX P w) 2 D.a_entry_kept D.d_entry_kept ["entry", "states", "signs"] (spV K [.F, .F, .F] [.F, .F, .F] (W_entry_kept D.A)) := by
  refine fn_ok T.F_entry_kept sc_entry_kept rfl rfl (by decide) (w' := w_entry_kept D.A) (fun cdv A outer s H E hr => ?_) (fun ds P hl h => d_entry_kept D.A ds P h)
  unfold w_entry_kept
  exact qs_cons (q_ifs (q_tcmp op_isN ok_IsN (q_var 0) (q_non) (nomark _)) (qs_one (q_ret (q_non))) (qs_nil)) <|
    qs_cons (q_ifs (PW.pt (qw_or (q_not (q_tval (q_isi "tuple" T.n_isinstance T.n_tuple (q_var 0)))) (qw_or1 (q_tcmp op_ne ok_Ne (q_callB call_lenU ok_Len (by rfl) T.n_len (by rfl) (q_cons (q_var 0) (q_nil))) (q_int) (nomark _))))) (qs_one (q_never)) (qs_nil)) <|
    qs_cons (q_asg (q_var 0) (q_gtup rfl (q_gcons (q_gname 3 sc_entry_kept.nd) (q_gcons (q_gname 4 sc_entry_kept.nd) (q_gcons (q_gname 5 sc_entry_kept.nd) (q_gnil)))))) <|
    qs_cons (q_ifs (PW.pt (qw_or (q_not (q_tval (q_call (ok_is_number T) (hr.mono (by decide)) T.m_is_number T.F_is_number.kp T.b_is_number (takes_of rfl rfl rfl rfl) (q_cons (q_var 3) (q_cons (q_var 2) (q_nil)))))) (qw_or (q_tcmp (OpR.or op_notIn_seq (op_dnotin (hu_of hr))) ok_NotIn (q_var 4) (q_tup (q_cons (q_str) (q_cons (q_str) (q_nil)))) (by with_unfolding_all rfl)) (qw_or1 (q_not (q_tval (q_call (ok_is_number T) (hr.mono (by decide)) T.m_is_number T.F_is_number.kp T.b_is_number (takes_of rfl rfl rfl rfl) (q_cons (q_var 5) (q_cons (q_var 1) (q_nil)))))))))) (qs_one (q_never)) (qs_nil)) <|
    qs_one (q_ret (q_tup (q_cons (q_var 3) (q_cons (q_var 4) (q_cons (q_var 5) (q_nil))))))
theorem ok_Machine_init (T : Txt K mg D) : FnOk P w K mg base (L2.CX P w) 3 D.a_Machine_init D.d_Machine_init ["self", "table"] (spV K (mkMs [] 1) (mkMs [.F] 1) (W_Machine_init D.A)) := by
  refine fn_ok T.F_Machine_init sc_Machine_init rfl rfl (by decide) (w' := w_Machine_init D.A) (fun cdv A outer s H E hr => ?_) (fun ds P hl h => d_Machine_init D.A ds P h)
  unfold w_Machine_init
  exact qs_cons (q_ifs (PW.pt (qw_or (q_tcmp op_eq ok_Eq (q_callB call_lenU ok_Len (by rfl) T.n_len (by rfl) (q_cons (q_var 1) (q_nil))) (q_int) (nomark _)) (qw_or1 (q_tcmp op_eq ok_Eq (q_callB call_lenU ok_Len (by rfl) T.n_len (by rfl) (q_cons (q_ixU (hu_of hr) (q_var 1) (q_int)) (q_nil))) (q_int) (nomark _))))) (qs_one (q_never)) (qs_nil)) <|
    qs_cons (q_set (i := 2) sc_Machine_init.nd (q_fz (q_callB call_lenU ok_Len (by rfl) T.n_len (by rfl) (q_cons (q_var 1) (q_nil))))) <|
    qs_cons (q_set (i := 3) sc_Machine_init.nd (q_fz (q_callB call_lenU ok_Len (by rfl) T.n_len (by rfl) (q_cons (q_ixU (hu_of hr) (q_var 1) (q_int)) (q_nil))))) <|
    qs_cons (q_set (i := 4) sc_Machine_init.nd (q_lst (q_nil))) <|
    qs_cons (q_for (passes_of rfl) rfl (qi_seq (q_var 1)) (q_gname 5 sc_Machine_init.nd) (qs_cons (q_ifs (q_tcmp op_ne ok_Ne (q_callB call_lenU ok_Len (by rfl) T.n_len (by rfl) (q_cons (q_var 5) (q_nil))) (q_var 3) (nomark _)) (qs_one (q_never)) (qs_nil)) <|
    qs_one (q_expr (q_lm PySem.F.slot_list_append PySem.F.type_list_append mt_append ok_App (q_var 4) (q_cons (q_callTy call_tuple_of ok_Tuple (by rfl) T.n_tuple (by rfl) (q_cons (q_lc (own := [("entry", 6)]) [] rfl sc_Machine_init.nd (qi_seq (q_var 5)) (blkOk_by (N := ["self", "table", "states", "signs", "made", "line", "entry"]) (sc := defScope s_Machine_init) (by decide +kernel)) (fun _ _ _ _ _ => q_gname 6 sc_Machine_init.nd) (fun _ _ _ _ _ => q_tsnil) (fun _ _ _ _ _ => q_call (ok_entry_kept T) (hr.mono (by decide)) T.m_entry_kept T.F_entry_kept.kp T.b_entry_kept takes0 (q_cons (q_var 6) (q_cons (q_var 2) (q_cons (q_var 3) (q_nil)))))) (q_nil))) (q_nil)))))) <|
    qs_one (q_putF 0 D.A.C_Machine 0 T.cl_Machine T.na_Machine_table (q_fz (q_callTy call_tuple_of ok_Tuple (by rfl) T.n_tuple (by rfl) (q_cons (q_var 4) (q_nil)))))
theorem ok_states_of (T : Txt K mg D) : FnOk P w K mg base (L2.CX P w) 1 D.a_states_of D.d_states_of ["machine"] (spV K [.F] [.F] (W_states_of D.A)) := by
  refine fn_ok T.F_states_of sc_states_of rfl rfl (by decide) (w' := w_states_of D.A) (fun cdv A outer s H E hr => ?_) (fun ds P hl h => d_states_of D.A ds P h)
  unfold w_states_of
  exact qs_one (q_ret (q_callB call_lenU ok_Len (by rfl) T.n_len (by rfl) (q_cons (q_fld D.A.C_Machine 0 T.cl_Machine T.na_Machine_table (q_var 0)) (q_nil))))
theorem ok_signs_of (T : Txt K mg D) : FnOk P w K mg base (L2.CX P w) 1 D.a_signs_of D.d_signs_of ["machine"] (spV K [.F] [.F] (W_signs_of D.A)) := by
  refine fn_ok T.F_signs_of sc_signs_of rfl rfl (by decide) (w' := w_signs_of D.A) (fun cdv A outer s H E hr => ?_) (fun ds P hl h => d_signs_of D.A ds P h)
  unfold w_signs_of
  exact qs_one (q_ret (q_callB call_lenU ok_Len (by rfl) T.n_len (by rfl) (q_cons (q_ixU (hu_of hr) (q_fld D.A.C_Machine 0 T.cl_Machine T.na_Machine_table (q_var 0)) (q_int)) (q_nil))))
theorem ok_ask_row (T : Txt K mg D) : FnOk P w K mg base (L2.CX P w) 1 D.a_ask_row D.d_ask_row ["row"] (spV K [.F] [.F] (W_ask_row D.A)) := by
  refine fn_ok T.F_ask_row sc_ask_row rfl rfl (by decide) (w' := w_ask_row D.A) (fun cdv A outer s H E hr => ?_) (fun ds P hl h => d_ask_row D.A ds P h)
  unfold w_ask_row
  exact qs_cons (q_set (i := 1) sc_ask_row.nd (q_fz (q_non))) <|
    qs_cons (q_for (passes_of rfl) rfl (qi_seq (q_var 0)) (q_gtup rfl (q_gcons (q_gname 2 sc_ask_row.nd) (q_gcons (q_gname 3 sc_ask_row.nd) (q_gnil)))) (qs_cons (q_ifs (PW.pt (qw_or (q_tcmp op_lt ok_B0 (q_var 2) (q_int) (nomark _)) (qw_or (q_tcmp op_lt ok_B0 (q_var 3) (q_int) (nomark _)) (qw_or1 (q_tcmp (op_eqD (hu64 hr)) ok_EqX (q_var 2) (q_var 1) (nomark _)))))) (qs_one (q_never)) (qs_nil)) <|
    qs_one (q_set (i := 1) sc_ask_row.nd (q_fz (q_var 2))))) <|
    qs_one (q_ifs (q_tcmp (op_eqD (hu64 hr)) ok_EqX (q_var 1) (q_int) (nomark _)) (qs_one (q_never)) (qs_nil))
theorem ok_ask_stretches (T : Txt K mg D) : FnOk P w K mg base (L2.CX P w) 2 D.a_ask_stretches D.d_ask_stretches ["stretches"] (spV K [.F] [.F] (W_ask_stretches D.A)) := by
  refine fn_ok T.F_ask_stretches sc_ask_stretches rfl rfl (by decide) (w' := w_ask_stretches D.A) (fun cdv A outer s H E hr => ?_) (fun ds P hl h => d_ask_stretches D.A ds P h)
  unfold w_ask_stretches
  exact qs_cons (q_asg (q_var 0) (q_gtup rfl (q_gcons (q_gname 1 sc_ask_stretches.nd) (q_gcons (q_gname 2 sc_ask_stretches.nd) (q_gcons (q_gname 3 sc_ask_stretches.nd) (q_gnil)))))) <|
    qs_cons (q_ifs (q_tcmp op_lt ok_B0 (q_var 1) (q_int) (nomark _)) (qs_one (q_never)) (qs_nil)) <|
    qs_cons (q_expr (q_call (ok_ask_row T) (hr.mono (by decide)) T.m_ask_row T.F_ask_row.kp T.b_ask_row (takes_of rfl rfl rfl rfl) (q_cons (q_var 2) (q_nil)))) <|
    qs_one (q_expr (q_call (ok_ask_row T) (hr.mono (by decide)) T.m_ask_row T.F_ask_row.kp T.b_ask_row (takes_of rfl rfl rfl rfl) (q_cons (q_var 3) (q_nil))))
theorem ok_marks_along (T : Txt K mg D) : FnOk P w K mg base (L2.CX P w) 1 D.a_marks_along D.d_marks_along ["row", "start", "way"] (spV K [.F, .F, .F] [.F, .F, .F] (W_marks_along D.A)) := by
  refine fn_ok T.F_marks_along sc_marks_along rfl rfl (by decide) (w' := w_marks_along D.A) (fun cdv A outer s H E hr => ?_) (fun ds P hl h => d_marks_along D.A ds P h)
  unfold w_marks_along
  exact qs_cons (q_set (i := 3) sc_marks_along.nd (q_lst (q_nil))) <|
    qs_cons (q_set (i := 4) sc_marks_along.nd (q_fz (q_var 1))) <|
    qs_cons (q_for (passes_of rfl) rfl (qi_seq (q_var 0)) (q_gtup rfl (q_gcons (q_gname 5 sc_marks_along.nd) (q_gcons (q_gname 6 sc_marks_along.nd) (q_gnil)))) (qs_cons (q_ifs (q_tcmp op_ne ok_Ne (q_var 5) (q_int) (nomark _)) (qs_one (q_expr (q_lm PySem.F.slot_list_extend PySem.F.type_list_extend mt_extend ok_Ext (q_var 3) (q_cons (q_lc (own := [("k", 7)]) [] rfl sc_marks_along.nd (qi_range1 T.n_range (q_cons (q_var 6) (q_nil))) (blkOk_by (N := ["row", "start", "way", "marks", "spot", "sign", "count", "k"]) (sc := defScope s_marks_along) (by decide +kernel)) (fun _ _ _ _ _ => q_gname 7 sc_marks_along.nd) (fun _ _ _ _ _ => q_tsnil) (fun _ _ _ _ _ => q_tup (q_cons (q_op op_addU ok_Add (q_var 4) (q_op op_mulU ok_Mul (q_var 2) (q_var 7))) (q_cons (q_var 5) (q_nil))))) (q_nil))))) (qs_nil)) <|
    qs_one (q_aug (i := 4) sc_marks_along.nd ip_add ok_I0 (q_op op_mulU ok_Mul (q_var 2) (q_var 6))))) <|
    qs_one (q_ret (q_mov 3))
theorem ok_shot_of (T : Txt K mg D) : FnOk P w K mg base (L2.CX P w) 3 D.a_shot_of D.d_shot_of ["stretches", "place"] (spV K [.F, .F] [.F, .F] (W_shot_of D.A)) := by
  refine fn_ok T.F_shot_of sc_shot_of rfl rfl (by decide) (w' := w_shot_of D.A) (fun cdv A outer s H E hr => ?_) (fun ds P hl h => d_shot_of D.A ds P h)
  unfold w_shot_of
  exact qs_cons (q_expr (q_call (ok_ask_stretches T) (hr.mono (by decide)) T.m_ask_stretches T.F_ask_stretches.kp T.b_ask_stretches (takes_of rfl rfl rfl rfl) (q_cons (q_var 0) (q_nil)))) <|
    qs_cons (q_asg (q_var 0) (q_gtup rfl (q_gcons (q_gname 2 sc_shot_of.nd) (q_gcons (q_gname 3 sc_shot_of.nd) (q_gcons (q_gname 4 sc_shot_of.nd) (q_gnil)))))) <|
    qs_cons (q_set (i := 5) sc_shot_of.nd (q_fz (q_call (ok_marks_along T) (hr.mono (by decide)) T.m_marks_along T.F_marks_along.kp T.b_marks_along (takes_of rfl rfl rfl rfl) (q_cons (q_var 3) (q_cons (q_op op_sub ok_I0 (q_var 1) (q_int)) (q_cons (q_un un_neg ok_Neg (q_int)) (q_nil))))))) <|
    qs_one (q_ret (q_tup (q_cons (q_var 2) (q_cons (q_var 1) (q_cons (q_callTy call_tuple_of ok_Tuple (by rfl) T.n_tuple (by rfl) (q_cons (q_op op_addU ok_Add (q_lrev rfl T.n_list T.n_reversed (q_var 5)) (q_call (ok_marks_along T) (hr.mono (by decide)) T.m_marks_along T.F_marks_along.kp T.b_marks_along (takes_of rfl rfl rfl rfl) (q_cons (q_var 4) (q_cons (q_var 1) (q_cons (q_int) (q_nil)))))) (q_nil))) (q_nil))))))
theorem ok_put (T : Txt K mg D) : FnOk P w K mg base (L2.CX P w) 1 D.a_put D.d_put ["row", "sign", "count"] (spV K [.P (.L .F), .F, .F] [.P (.L .F), .F, .F] (W_put D.A)) := by
  refine fn_ok T.F_put sc_put rfl rfl (by decide) (w' := w_put D.A) (fun cdv A outer s H E hr => ?_) (fun ds P hl h => d_put D.A ds P h)
  unfold w_put
  exact qs_cons (q_ifs (PW.pt (qw_or (q_tcmp op_eq ok_Eq (q_var 2) (q_int) (nomark _)) (qw_or1 (PW.pt (qw_and (q_tcmp op_eq ok_Eq (q_var 1) (q_int) (nomark _)) (qw_and1 (q_tcmp op_eq ok_Eq (q_callB call_lenU ok_Len (by rfl) T.n_len (by rfl) (q_cons (q_var 0) (q_nil))) (q_int) (nomark _)))))))) (qs_one (q_retN)) (qs_nil)) <|
    qs_one (q_ifs (PW.pt (qw_and (q_tcmp op_gt ok_B0 (q_callB call_lenU ok_Len (by rfl) T.n_len (by rfl) (q_cons (q_var 0) (q_nil))) (q_int) (nomark _)) (qw_and1 (q_tcmp op_eq ok_Eq (q_ixU (hu_of hr) (q_ixU (hu_of hr) (q_var 0) (q_un un_neg ok_Neg (q_int))) (q_int)) (q_var 1) (nomark _))))) (qs_one (q_sub (hu_of hr) (q_var 0) (q_un un_neg ok_Neg (q_int)) (q_tup (q_cons (q_var 1) (q_cons (q_op op_addU ok_Add (q_ixU (hu_of hr) (q_ixU (hu_of hr) (q_var 0) (q_un un_neg ok_Neg (q_int))) (q_int)) (q_var 2)) (q_nil)))))) (qs_one (q_expr (q_lm PySem.F.slot_list_append PySem.F.type_list_append mt_append ok_App (q_var 0) (q_cons (q_tup (q_cons (q_var 1) (q_cons (q_var 2) (q_nil)))) (q_nil))))))
theorem ok_drop (T : Txt K mg D) : FnOk P w K mg base (L2.CX P w) 1 D.a_drop D.d_drop ["row", "count"] (spV K [.P (.L .F), .F] [.P (.L .F), .F] (W_drop D.A)) := by
  refine fn_ok T.F_drop sc_drop rfl rfl (by decide) (w' := w_drop D.A) (fun cdv A outer s H E hr => ?_) (fun ds P hl h => d_drop D.A ds P h)
  unfold w_drop
  exact qs_cons (q_ifs (PW.pt (qw_or (q_tcmp op_eq ok_Eq (q_var 1) (q_int) (nomark _)) (qw_or1 (q_tcmp op_eq ok_Eq (q_callB call_lenU ok_Len (by rfl) T.n_len (by rfl) (q_cons (q_var 0) (q_nil))) (q_int) (nomark _))))) (qs_one (q_retN)) (qs_nil)) <|
    qs_cons (q_asg (q_lm0 PySem.F.slot_list_pop PySem.F.type_list_pop mt_popU ok_Pop (q_var 0)) (q_gtup rfl (q_gcons (q_gname 2 sc_drop.nd) (q_gcons (q_gname 3 sc_drop.nd) (q_gnil))))) <|
    qs_one (q_ifs (q_tcmp op_gt ok_B0 (q_var 3) (q_var 1) (nomark _)) (qs_one (q_expr (q_lm PySem.F.slot_list_append PySem.F.type_list_append mt_append ok_App (q_var 0) (q_cons (q_tup (q_cons (q_var 2) (q_cons (q_op op_sub ok_I0 (q_var 3) (q_var 1)) (q_nil)))) (q_nil))))) (qs_nil))
theorem ok_near_sign (T : Txt K mg D) : FnOk P w K mg base (L2.CX P w) 1 D.a_near_sign D.d_near_sign ["row"] (spV K [.P (.L .F)] [.P (.L .F)] (W_near_sign D.A)) := by
  refine fn_ok T.F_near_sign sc_near_sign rfl rfl (by decide) (w' := w_near_sign D.A) (fun cdv A outer s H E hr => ?_) (fun ds P hl h => d_near_sign D.A ds P h)
  unfold w_near_sign
  exact qs_cons (q_ifs (q_tcmp op_eq ok_Eq (q_callB call_lenU ok_Len (by rfl) T.n_len (by rfl) (q_cons (q_var 0) (q_nil))) (q_int) (nomark _)) (qs_one (q_ret (q_int))) (qs_nil)) <|
    qs_one (q_ret (q_ixU (hu_of hr) (q_ixU (hu_of hr) (q_var 0) (q_un un_neg ok_Neg (q_int))) (q_int)))
theorem ok_near_count (T : Txt K mg D) : FnOk P w K mg base (L2.CX P w) 2 D.a_near_count D.d_near_count ["row", "sign", "wanted"] (spV K [.P (.L .F), .F, .F] [.P (.L .F), .F, .F] (W_near_count D.A)) := by
  refine fn_ok T.F_near_count sc_near_count rfl rfl (by decide) (w' := w_near_count D.A) (fun cdv A outer s H E hr => ?_) (fun ds P hl h => d_near_count D.A ds P h)
  unfold w_near_count
  exact qs_cons (q_ifs (q_tcmp op_ne ok_Ne (q_call (ok_near_sign T) (hr.mono (by decide)) T.m_near_sign T.F_near_sign.kp T.b_near_sign (takes_of rfl rfl rfl rfl) (q_cons (q_var 0) (q_nil))) (q_var 1) (nomark _)) (qs_one (q_ret (q_int))) (qs_nil)) <|
    qs_cons (q_ifs (q_tcmp op_eq ok_Eq (q_callB call_lenU ok_Len (by rfl) T.n_len (by rfl) (q_cons (q_var 0) (q_nil))) (q_int) (nomark _)) (qs_one (q_ret (q_var 2))) (qs_nil)) <|
    qs_one (q_ret (q_callB (call_min2 rfl) ok_Min2 (by rfl) T.n_min (by rfl) (q_cons (q_var 2) (q_cons (q_ixU (hu_of hr) (q_ixU (hu_of hr) (q_var 0) (q_un un_neg ok_Neg (q_int))) (q_int)) (q_nil)))))
theorem ok_Ribbon_init (T : Txt K mg D) : FnOk P w K mg base (L2.CX P w) 1 D.a_Ribbon_init D.d_Ribbon_init ["self", "machine", "stretches"] (spV K (mkMs [] 2) (mkMs [.F, .F, .L .F, .L .F, .F] 2) (W_Ribbon_init D.A)) := by
  refine fn_ok T.F_Ribbon_init sc_Ribbon_init rfl rfl (by decide) (w' := w_Ribbon_init D.A) (fun cdv A outer s H E hr => ?_) (fun ds P hl h => d_Ribbon_init D.A ds P h)
  unfold w_Ribbon_init
  exact qs_cons (q_putF 0 D.A.C_Ribbon 0 T.cl_Ribbon T.na_Ribbon_table (q_fz (q_fld D.A.C_Machine 0 T.cl_Machine T.na_Machine_table (q_var 1)))) <|
    qs_cons (q_putF 0 D.A.C_Ribbon 1 T.cl_Ribbon T.na_Ribbon_now (q_fz (q_ixU (hu_of hr) (q_var 2) (q_int)))) <|
    qs_cons (q_putF 0 D.A.C_Ribbon 2 T.cl_Ribbon T.na_Ribbon_left (q_lrev rfl T.n_list T.n_reversed (q_ixU (hu_of hr) (q_var 2) (q_int)))) <|
    qs_cons (q_putF 0 D.A.C_Ribbon 3 T.cl_Ribbon T.na_Ribbon_right (q_lrev rfl T.n_list T.n_reversed (q_ixU (hu_of hr) (q_var 2) (q_int)))) <|
    qs_one (q_putF 0 D.A.C_Ribbon 4 T.cl_Ribbon T.na_Ribbon_moved (q_fz (q_int)))
theorem ok_Ribbon_entry (T : Txt K mg D) : FnOk P w K mg base (L2.CX P w) 2 D.a_Ribbon_entry D.d_Ribbon_entry ["self"] (spV K [.P (.O [.F, .F, .L .F, .L .F, .F])] [.P (.O [.F, .F, .L .F, .L .F, .F])] (W_Ribbon_entry D.A)) := by
  refine fn_ok T.F_Ribbon_entry sc_Ribbon_entry rfl rfl (by decide) (w' := w_Ribbon_entry D.A) (fun cdv A outer s H E hr => ?_) (fun ds P hl h => d_Ribbon_entry D.A ds P h)
  unfold w_Ribbon_entry
  exact qs_one (q_ret (q_ixU (hu_of hr) (q_ixU (hu_of hr) (q_fld D.A.C_Ribbon 0 T.cl_Ribbon T.na_Ribbon_table (q_var 0)) (q_fld D.A.C_Ribbon 1 T.cl_Ribbon T.na_Ribbon_now (q_var 0))) (q_call (ok_near_sign T) (hr.mono (by decide)) T.m_near_sign T.F_near_sign.kp T.b_near_sign (takes_of rfl rfl rfl rfl) (q_cons (q_fld D.A.C_Ribbon 3 T.cl_Ribbon T.na_Ribbon_right (q_var 0)) (q_nil)))))
theorem ok_Ribbon_leap (T : Txt K mg D) : FnOk P w K mg base (L2.CX P w) 3 D.a_Ribbon_leap D.d_Ribbon_leap ["self", "wanted"] (spV K [.P (.O [.F, .F, .L .F, .L .F, .F]), .F] [.P (.O [.F, .F, .L .F, .L .F, .F]), .F] (W_Ribbon_leap D.A)) := by
  refine fn_ok T.F_Ribbon_leap sc_Ribbon_leap rfl rfl (by decide) (w' := w_Ribbon_leap D.A) (fun cdv A outer s H E hr => ?_) (fun ds P hl h => d_Ribbon_leap D.A ds P h)
  unfold w_Ribbon_leap
  exact qs_cons (q_asg (q_meth0 (q_var 0) T.cl_Ribbon T.me_Ribbon_entry (ok_Ribbon_entry T) (hr.mono (by decide)) T.b_Ribbon_entry (takes_of rfl rfl rfl rfl)) (q_gtup rfl (q_gcons (q_gname 2 sc_Ribbon_leap.nd) (q_gcons (q_gname 3 sc_Ribbon_leap.nd) (q_gcons (q_gname 4 sc_Ribbon_leap.nd) (q_gnil)))))) <|
    qs_cons (q_set (i := 5) sc_Ribbon_leap.nd (q_fz (q_call (ok_near_sign T) (hr.mono (by decide)) T.m_near_sign T.F_near_sign.kp T.b_near_sign (takes_of rfl rfl rfl rfl) (q_cons (q_fld D.A.C_Ribbon 3 T.cl_Ribbon T.na_Ribbon_right (q_var 0)) (q_nil))))) <|
    qs_cons (q_set (i := 6) sc_Ribbon_leap.nd (q_fz (q_int))) <|
    qs_cons (q_ifs (PW.pt (qw_and (q_tcmp op_eq ok_Eq (q_var 4) (q_fld D.A.C_Ribbon 1 T.cl_Ribbon T.na_Ribbon_now (q_var 0)) (nomark _)) (qw_and1 (q_tcmp op_eq ok_Eq (q_var 3) (q_str) (nomark _))))) (qs_one (q_set (i := 6) sc_Ribbon_leap.nd (q_fz (q_call (ok_near_count T) (hr.mono (by decide)) T.m_near_count T.F_near_count.kp T.b_near_count (takes_of rfl rfl rfl rfl) (q_cons (q_fld D.A.C_Ribbon 3 T.cl_Ribbon T.na_Ribbon_right (q_var 0)) (q_cons (q_var 5) (q_cons (q_var 1) (q_nil)))))))) (qs_one (q_ifs (q_tcmp op_eq ok_Eq (q_var 4) (q_fld D.A.C_Ribbon 1 T.cl_Ribbon T.na_Ribbon_now (q_var 0)) (nomark _)) (qs_one (q_set (i := 6) sc_Ribbon_leap.nd (q_fz (q_op op_addU ok_Add (q_int) (q_call (ok_near_count T) (hr.mono (by decide)) T.m_near_count T.F_near_count.kp T.b_near_count (takes_of rfl rfl rfl rfl) (q_cons (q_fld D.A.C_Ribbon 2 T.cl_Ribbon T.na_Ribbon_left (q_var 0)) (q_cons (q_var 5) (q_cons (q_op op_sub ok_I0 (q_var 1) (q_int)) (q_nil))))))))) (qs_nil)))) <|
    qs_cons (q_ifs (q_tcmp op_eq ok_Eq (q_var 3) (q_str) (nomark _)) (qs_cons (q_expr (q_call (ok_drop T) (hr.mono (by decide)) T.m_drop T.F_drop.kp T.b_drop (takes_of rfl rfl rfl rfl) (q_cons (q_fld D.A.C_Ribbon 3 T.cl_Ribbon T.na_Ribbon_right (q_var 0)) (q_cons (q_var 6) (q_nil))))) <|
    qs_cons (q_expr (q_call (ok_put T) (hr.mono (by decide)) T.m_put T.F_put.kp T.b_put (takes_of rfl rfl rfl rfl) (q_cons (q_fld D.A.C_Ribbon 2 T.cl_Ribbon T.na_Ribbon_left (q_var 0)) (q_cons (q_var 2) (q_cons (q_var 6) (q_nil)))))) <|
    qs_one (q_augFa 0 D.A.C_Ribbon 4 6 T.cl_Ribbon T.na_Ribbon_moved)) (qs_cons (q_expr (q_call (ok_drop T) (hr.mono (by decide)) T.m_drop T.F_drop.kp T.b_drop (takes_of rfl rfl rfl rfl) (q_cons (q_fld D.A.C_Ribbon 3 T.cl_Ribbon T.na_Ribbon_right (q_var 0)) (q_cons (q_int) (q_nil))))) <|
    qs_cons (q_expr (q_call (ok_drop T) (hr.mono (by decide)) T.m_drop T.F_drop.kp T.b_drop (takes_of rfl rfl rfl rfl) (q_cons (q_fld D.A.C_Ribbon 2 T.cl_Ribbon T.na_Ribbon_left (q_var 0)) (q_cons (q_op op_sub ok_I0 (q_var 6) (q_int)) (q_nil))))) <|
    qs_cons (q_expr (q_call (ok_put T) (hr.mono (by decide)) T.m_put T.F_put.kp T.b_put (takes_of rfl rfl rfl rfl) (q_cons (q_fld D.A.C_Ribbon 3 T.cl_Ribbon T.na_Ribbon_right (q_var 0)) (q_cons (q_var 2) (q_cons (q_var 6) (q_nil)))))) <|
    qs_cons (q_set (i := 7) sc_Ribbon_leap.nd (q_fz (q_call (ok_near_sign T) (hr.mono (by decide)) T.m_near_sign T.F_near_sign.kp T.b_near_sign (takes_of rfl rfl rfl rfl) (q_cons (q_fld D.A.C_Ribbon 2 T.cl_Ribbon T.na_Ribbon_left (q_var 0)) (q_nil))))) <|
    qs_cons (q_expr (q_call (ok_drop T) (hr.mono (by decide)) T.m_drop T.F_drop.kp T.b_drop (takes_of rfl rfl rfl rfl) (q_cons (q_fld D.A.C_Ribbon 2 T.cl_Ribbon T.na_Ribbon_left (q_var 0)) (q_cons (q_int) (q_nil))))) <|
    qs_cons (q_expr (q_call (ok_put T) (hr.mono (by decide)) T.m_put T.F_put.kp T.b_put (takes_of rfl rfl rfl rfl) (q_cons (q_fld D.A.C_Ribbon 3 T.cl_Ribbon T.na_Ribbon_right (q_var 0)) (q_cons (q_var 7) (q_cons (q_int) (q_nil)))))) <|
    qs_one (q_augFs 0 D.A.C_Ribbon 4 6 T.cl_Ribbon T.na_Ribbon_moved))) <|
    qs_cons (q_putF 0 D.A.C_Ribbon 1 T.cl_Ribbon T.na_Ribbon_now (q_fz (q_var 4))) <|
    qs_one (q_ret (q_var 6))
theorem ok_Ribbon_told (T : Txt K mg D) : FnOk P w K mg base (L2.CX P w) 1 D.a_Ribbon_told D.d_Ribbon_told ["self"] (spV K [.P (.O [.F, .F, .L .F, .L .F, .F])] [.P (.O [.F, .F, .L .F, .L .F, .F])] (W_Ribbon_told D.A)) := by
  refine fn_ok T.F_Ribbon_told sc_Ribbon_told rfl rfl (by decide) (w' := w_Ribbon_told D.A) (fun cdv A outer s H E hr => ?_) (fun ds P hl h => d_Ribbon_told D.A ds P h)
  unfold w_Ribbon_told
  exact qs_one (q_ret (q_tup (q_cons (q_fld D.A.C_Ribbon 1 T.cl_Ribbon T.na_Ribbon_now (q_var 0)) (q_cons (q_lrev rfl T.n_list T.n_reversed (q_fld D.A.C_Ribbon 2 T.cl_Ribbon T.na_Ribbon_left (q_var 0))) (q_cons (q_lrev rfl T.n_list T.n_reversed (q_fld D.A.C_Ribbon 3 T.cl_Ribbon T.na_Ribbon_right (q_var 0))) (q_nil))))))
theorem ok_ask_for (T : Txt K mg D) : FnOk P w K mg base (L2.CX P w) 3 D.a_ask_for D.d_ask_for ["machine", "stretches"] (spV K [.F, .F] [.F, .F] (W_ask_for D.A)) := by
  refine fn_ok T.F_ask_for sc_ask_for rfl rfl (by decide) (w' := w_ask_for D.A) (fun cdv A outer s H E hr => ?_) (fun ds P hl h => d_ask_for D.A ds P h)
  unfold w_ask_for
  exact qs_cons (q_expr (q_call (ok_ask_stretches T) (hr.mono (by decide)) T.m_ask_stretches T.F_ask_stretches.kp T.b_ask_stretches (takes_of rfl rfl rfl rfl) (q_cons (q_var 1) (q_nil)))) <|
    qs_cons (q_ifs (q_tcmp op_ge ok_B0 (q_ixU (hu_of hr) (q_var 1) (q_int)) (q_call (ok_states_of T) (hr.mono (by decide)) T.m_states_of T.F_states_of.kp T.b_states_of (takes_of rfl rfl rfl rfl) (q_cons (q_var 0) (q_nil))) (nomark _)) (qs_one (q_never)) (qs_nil)) <|
    qs_one (q_for (passes_of rfl) rfl (qi_seq (q_op op_addU ok_Add (q_callTy (call_listU rfl) ok_List (by rfl) T.n_list (by rfl) (q_cons (q_ixU (hu_of hr) (q_var 1) (q_int)) (q_nil))) (q_callTy (call_listU rfl) ok_List (by rfl) T.n_list (by rfl) (q_cons (q_ixU (hu_of hr) (q_var 1) (q_int)) (q_nil))))) (q_gtup rfl (q_gcons (q_gname 2 sc_ask_for.nd) (q_gcons (q_gname 3 sc_ask_for.nd) (q_gnil)))) (qs_one (q_ifs (q_tcmp op_ge ok_B0 (q_var 2) (q_call (ok_signs_of T) (hr.mono (by decide)) T.m_signs_of T.F_signs_of.kp T.b_signs_of (takes_of rfl rfl rfl rfl) (q_cons (q_var 0) (q_nil))) (nomark _)) (qs_one (q_never)) (qs_nil))))
theorem ok_fast_from (T : Txt K mg D) : FnOk P w K mg base (L2.CX P w) 4 D.a_fast_from D.d_fast_from ["machine", "stretches", "steps", "most"] (spV K [.F, .F, .F, .F] [.F, .F, .F, .F] (W_fast_from D.A)) := by
  refine fn_ok T.F_fast_from sc_fast_from rfl rfl (by decide) (w' := w_fast_from D.A) (fun cdv A outer s H E hr => ?_) (fun ds P hl h => d_fast_from D.A ds P h)
  unfold w_fast_from
  exact qs_cons (q_expr (q_call (ok_ask_for T) (hr.mono (by decide)) T.m_ask_for T.F_ask_for.kp T.b_ask_for (takes_of rfl rfl rfl rfl) (q_cons (q_var 0) (q_cons (q_var 1) (q_nil))))) <|
    qs_cons (q_set (i := 4) sc_fast_from.nd (q_make T.mk_Ribbon (ok_Ribbon_init T) (hr.mono (by decide)) T.m_Ribbon T.b_Ribbon_init (takes_of rfl rfl rfl rfl) (q_cons (q_var 0) (q_cons (q_var 1) (q_nil))))) <|
    qs_cons (q_set (i := 5) sc_fast_from.nd (q_fz (q_int))) <|
    qs_cons (q_set (i := 6) sc_fast_from.nd (q_fz (q_int))) <|
    qs_cons (q_while (passes_of rfl) (PW.pt (qw_and (q_tcmp op_lt ok_B0 (q_var 5) (q_var 2) (nomark _)) (qw_and1 (q_tcmp op_notN ok_NotN (q_meth0 (q_var 4) T.cl_Ribbon T.me_Ribbon_entry (ok_Ribbon_entry T) (hr.mono (by decide)) T.b_Ribbon_entry (takes_of rfl rfl rfl rfl)) (q_non) (nomark _))))) (qs_cons (q_ifs (q_tcmp op_ge ok_B0 (q_var 6) (q_var 3) (nomark _)) (qs_one (q_raise T.rs_TooLong T.m_TooLong rfl (takes_of rfl rfl rfl rfl))) (qs_nil)) <|
    qs_cons (q_aug (i := 5) sc_fast_from.nd ip_add ok_I0 (q_meth (q_var 4) T.cl_Ribbon T.me_Ribbon_leap (ok_Ribbon_leap T) (hr.mono (by decide)) T.b_Ribbon_leap (takes_of rfl rfl rfl rfl) (q_cons (q_op op_sub ok_I0 (q_var 2) (q_var 5)) (q_nil)))) <|
    qs_one (q_aug (i := 6) sc_fast_from.nd ip_add ok_I0 (q_int)))) <|
    qs_one (q_ret (q_tup (q_cons (q_meth0 (q_var 4) T.cl_Ribbon T.me_Ribbon_told (ok_Ribbon_told T) (hr.mono (by decide)) T.b_Ribbon_told (takes_of rfl rfl rfl rfl)) (q_cons (q_fld D.A.C_Ribbon 4 T.cl_Ribbon T.na_Ribbon_moved (q_var 4)) (q_cons (q_var 5) (q_cons (q_var 6) (q_nil)))))))
theorem ok_fast_after (T : Txt K mg D) : FnOk P w K mg base (L2.CX P w) 5 D.a_fast_after D.d_fast_after ["machine", "steps", "most"] (spV K [.F, .F, .F] [.F, .F, .F] (W_fast_after D.A)) := by
  refine fn_okD T.F_fast_after sc_fast_after rfl rfl (by decide) (w' := w_fast_after D.A) (fun cdv A outer s H E hr => ?_) (fun ds P hl h => d_fast_after D.A ds P h)
  unfold w_fast_after
  exact qs_cons (q_asg (q_call (ok_fast_from T) (hr.mono (by decide)) T.m_fast_from T.F_fast_from.kp T.b_fast_from (takes_of rfl rfl rfl rfl) (q_cons (q_var 0) (q_cons (q_tup (q_cons (q_int) (q_cons (q_lst (q_nil)) (q_cons (q_lst (q_nil)) (q_nil))))) (q_cons (q_var 1) (q_cons (q_var 2) (q_nil)))))) (q_gtup rfl (q_gcons (q_gname 3 sc_fast_after.nd) (q_gcons (q_gname 4 sc_fast_after.nd) (q_gcons (q_gname 5 sc_fast_after.nd) (q_gcons (q_gname 6 sc_fast_after.nd) (q_gnil))))))) <|
    qs_one (q_ret (q_tup (q_cons (q_call (ok_shot_of T) (hr.mono (by decide)) T.m_shot_of T.F_shot_of.kp T.b_shot_of (takes_of rfl rfl rfl rfl) (q_cons (q_var 3) (q_cons (q_var 4) (q_nil)))) (q_cons (q_var 5) (q_nil)))))
theorem ok__law_next (T : Txt K mg D) : FnOk P w K mg base (L2.CX P w) 1 D.a__law_next D.d__law_next ["_law_script", "_law_at"] (spV K [.F, .P (.L .F)] [.F, .P (.L .F)] (W__law_next D.A)) := by
  refine fn_ok T.F__law_next sc__law_next rfl rfl (by decide) (w' := w__law_next D.A) (fun cdv A outer s H E hr => ?_) (fun ds P hl h => d__law_next D.A ds P h)
  unfold w__law_next
  exact qs_cons (q_sub (hu_of hr) (q_var 1) (q_int) (q_op op_addU ok_Add (q_ixU (hu_of hr) (q_var 1) (q_int)) (q_int))) <|
    qs_cons (q_set (i := 2) sc__law_next.nd (q_fz (q_if (q_tcmp op_gt ok_B0 (q_callB call_lenU ok_Len (by rfl) T.n_len (by rfl) (q_cons (q_var 0) (q_nil))) (q_int) (nomark _)) (q_ixU (hu_of hr) (q_var 0) (q_op op_mod ok_I (q_ixU (hu_of hr) (q_var 1) (q_int)) (q_callB call_lenU ok_Len (by rfl) T.n_len (by rfl) (q_cons (q_var 0) (q_nil))))) (q_int)))) <|
    qs_cons (q_set (i := 3) sc__law_next.nd (q_fz (q_op op_mod ok_I (q_op op_mulU ok_Mul (q_op op_addU ok_Add (q_op op_addU ok_Add (q_op op_mod ok_I (q_var 2) (q_int)) (q_op op_mulU ok_Mul (q_op op_mulU ok_Mul (q_ixU (hu_of hr) (q_var 1) (q_int)) (q_ixU (hu_of hr) (q_var 1) (q_int))) (q_int))) (q_int)) (q_int)) (q_int)))) <|
    qs_one (q_ret (q_op op_mod ok_I (q_op op_mulU ok_Mul (q_var 3) (q_var 3)) (q_int)))
theorem ok__law_same (T : Txt K mg D) : ∀ n, FnOk P w K mg base (L2.CX P w) n D.a__law_same D.d__law_same ["_law_found", "_law_due"] (spV K [.F, .F] [.F, .F] (W__law_same D.A n))
  | 0 => fnok_none fun _ _ h => h
  | n + 1 => by
    have IH : FnOk P w K mg base (L2.CX P w) n D.a__law_same D.d__law_same ["_law_found", "_law_due"] (spV K [.F, .F] [.F, .F] (W__law_same D.A n)) := ok__law_same T n
    refine fn_ok T.F__law_same sc__law_same rfl rfl (by decide) (w' := w__law_same D.A n) (fun cdv A outer s H E hr => ?_) (fun ds P hl h => d__law_same D.A n ds P h)
    unfold w__law_same
    exact qs_cons (q_ifs (PW.pt (qw_or (q_tval (q_isi "list" T.n_isinstance T.n_list (q_var 1))) (qw_or1 (q_tval (q_isi "tuple" T.n_isinstance T.n_tuple (q_var 1)))))) (qs_cons (q_ifs (PW.pt (qw_or (q_tcmp op_ne ok_Ne (q_isi "list" T.n_isinstance T.n_list (q_var 0)) (q_isi "list" T.n_isinstance T.n_list (q_var 1)) (nomark _)) (qw_or1 (q_tcmp op_ne ok_Ne (q_isi "tuple" T.n_isinstance T.n_tuple (q_var 0)) (q_isi "tuple" T.n_isinstance T.n_tuple (q_var 1)) (nomark _))))) (qs_one (q_ret (q_bl))) (qs_nil)) <|
      qs_one (q_ret (q_and (q_cmp op_eq ok_Eq (q_callB call_lenU ok_Len (by rfl) T.n_len (by rfl) (q_cons (q_var 0) (q_nil))) (q_callB call_lenU ok_Len (by rfl) T.n_len (by rfl) (q_cons (q_var 1) (q_nil))) (nomark _)) (q_one (q_callB (cr_all rfl) ok_All (by rfl) T.n_all (by rfl) (q_cons (q_lc (own := [("_law_a", 2), ("_law_b", 3)]) [] rfl sc__law_same.nd (qi_zip T.n_zip (q_cons (q_var 0) (q_cons (q_var 1) (q_nil)))) (blkOk_by (N := ["_law_found", "_law_due", "_law_a", "_law_b"]) (sc := defScope s__law_same) (by decide +kernel)) (fun _ _ _ _ _ => q_gtup rfl (q_gcons (q_gname 2 sc__law_same.nd) (q_gcons (q_gname 3 sc__law_same.nd) (q_gnil)))) (fun _ _ _ _ _ => q_tsnil) (fun _ _ _ _ _ => q_call IH hr T.m__law_same T.F__law_same.kp T.b__law_same takes0 (q_cons (q_var 2) (q_cons (q_var 3) (q_nil))))) (q_nil))))))) (qs_nil)) <|
      qs_cons (q_ifs (q_tcmp op_isN ok_IsN (q_var 1) (q_non) (nomark _)) (qs_one (q_ret (q_cmp op_isN ok_IsN (q_var 0) (q_non) (nomark _)))) (qs_nil)) <|
      qs_cons (q_ifs (q_tval (q_isi "str" T.n_isinstance T.n_str (q_var 1))) (qs_one (q_ret (q_and (q_isi "str" T.n_isinstance T.n_str (q_var 0)) (q_one (q_cmp op_eq ok_Eq (q_var 0) (q_var 1) (nomark _)))))) (qs_nil)) <|
      qs_one (q_ret (q_and (q_isi "int" T.n_isinstance T.n_int (q_var 0)) (q_and (q_notV (q_isi "bool" T.n_isinstance T.n_bool (q_var 0))) (q_one (q_cmp op_eq ok_Eq (q_var 0) (q_var 1) (nomark _))))))
theorem ok__law_table (T : Txt K mg D) : FnOk P w K mg base (L2.CX P w) 2 D.a__law_table D.d__law_table ["_law_script", "_law_at", "_law_states", "_law_signs"] (spV K [.F, .P (.L .F), .F, .F] [.F, .P (.L .F), .F, .F] (W__law_table D.A)) := by
  refine fn_ok T.F__law_table sc__law_table rfl rfl (by decide) (w' := w__law_table D.A) (fun cdv A outer s H E hr => ?_) (fun ds P hl h => d__law_table D.A ds P h)
  unfold w__law_table
  exact qs_cons (q_set (i := 4) sc__law_table.nd (q_emp)) <|
    qs_cons (q_for (passes_of rfl) rfl (qi_range1 T.n_range (q_cons (q_var 2) (q_nil))) (q_gname 5 sc__law_table.nd) (qs_cons (q_set (i := 6) sc__law_table.nd (q_lst (q_nil))) <|
    qs_cons (q_for (passes_of rfl) rfl (qi_range1 T.n_range (q_cons (q_var 3) (q_nil))) (q_gname 7 sc__law_table.nd) (qs_cons (q_set (i := 8) sc__law_table.nd (q_fz (q_call (ok__law_next T) (hr.mono (by decide)) T.m__law_next T.F__law_next.kp T.b__law_next (takes_of rfl rfl rfl rfl) (q_cons (q_var 0) (q_cons (q_var 1) (q_nil)))))) <|
    qs_cons (q_set (i := 9) sc__law_table.nd (q_fz (q_tup (q_cons (q_op op_mod ok_I (q_op op_fdiv ok_I (q_var 8) (q_int)) (q_var 3)) (q_cons (q_ixU (hu_of hr) (q_str) (q_op op_mod ok_I (q_op op_fdiv ok_I (q_var 8) (q_int)) (q_int))) (q_cons (q_op op_mod ok_I (q_op op_fdiv ok_I (q_var 8) (q_int)) (q_var 2)) (q_nil))))))) <|
    qs_cons (q_ifs (q_tcmp op_eq ok_Eq (q_op op_mod ok_I (q_var 8) (q_int)) (q_int) (nomark _)) (qs_one (q_set (i := 9) sc__law_table.nd (q_fz (q_non)))) (qs_nil)) <|
    qs_one (q_expr (q_lm PySem.F.slot_list_append PySem.F.type_list_append mt_append ok_App (q_var 6) (q_cons (q_var 9) (q_nil)))))) <|
    qs_one (q_expr (q_app (q_var 4) (q_mov 6))))) <|
    qs_one (q_ret (q_mov 4))
theorem ok__law_shot (T : Txt K mg D) : FnOk P w K mg base (L2.CX P w) 1 D.a__law_shot D.d__law_shot ["_law_shot_here"] (spV K [.F] [.F] (W__law_shot D.A)) := by
  refine fn_ok T.F__law_shot sc__law_shot rfl rfl (by decide) (w' := w__law_shot D.A) (fun cdv A outer s H E hr => ?_) (fun ds P hl h => d__law_shot D.A ds P h)
  unfold w__law_shot
  exact qs_cons (q_asg (q_var 0) (q_gtup rfl (q_gcons (q_gname 1 sc__law_shot.nd) (q_gcons (q_gname 2 sc__law_shot.nd) (q_gcons (q_gname 3 sc__law_shot.nd) (q_gnil)))))) <|
    qs_one (q_ret (q_tup (q_cons (q_var 1) (q_cons (q_var 2) (q_cons (q_callTy call_tuple_of ok_Tuple (by rfl) T.n_tuple (by rfl) (q_cons (q_lc (own := [("_law_spot", 4)]) [] rfl sc__law_shot.nd (qi_seq (q_callB cr_sortedI ok_Sorted (by rfl) T.n_sorted (by rfl) (q_cons (q_callTy (call_listU rfl) ok_List (by rfl) T.n_list (by rfl) (q_cons (q_var 3) (q_nil))) (q_nil)))) (blkOk_by (N := ["_law_shot_here", "_law_state", "_law_place", "_law_cells", "_law_spot"]) (sc := defScope s__law_shot) (by decide +kernel)) (fun _ _ _ _ _ => q_gname 4 sc__law_shot.nd) (fun _ _ _ _ _ => q_tsnil) (fun _ _ _ _ _ => q_tup (q_cons (q_var 4) (q_cons (q_ixU (hu_of hr) (q_var 3) (q_var 4)) (q_nil))))) (q_nil))) (q_nil))))))
theorem ok__law_machine_by (T : Txt K mg D) : FnOk P w K mg base (L2.CX P w) 3 D.a__law_machine_by D.d__law_machine_by ["_law_script", "_law_at"] (spV K [.F, .P (.L .F)] [.F, .P (.L .F)] (W__law_machine_by D.A)) := by
  refine fn_ok T.F__law_machine_by sc__law_machine_by rfl rfl (by decide) (w' := w__law_machine_by D.A) (fun cdv A outer s H E hr => ?_) (fun ds P hl h => d__law_machine_by D.A ds P h)
  unfold w__law_machine_by
  exact qs_cons (q_set (i := 2) sc__law_machine_by.nd (q_fz (q_call (ok__law_next T) (hr.mono (by decide)) T.m__law_next T.F__law_next.kp T.b__law_next (takes_of rfl rfl rfl rfl) (q_cons (q_var 0) (q_cons (q_var 1) (q_nil)))))) <|
    qs_cons (q_set (i := 3) sc__law_machine_by.nd (q_fz (q_ixU (hu_of hr) (q_lst (q_cons (q_int) (q_cons (q_int) (q_cons (q_int) (q_cons (q_int) (q_cons (q_int) (q_cons (q_int) (q_nil)))))))) (q_op op_mod ok_I (q_var 2) (q_int))))) <|
    qs_cons (q_set (i := 4) sc__law_machine_by.nd (q_fz (q_ixU (hu_of hr) (q_lst (q_cons (q_int) (q_cons (q_int) (q_cons (q_int) (q_cons (q_int) (q_cons (q_int) (q_cons (q_int) (q_nil)))))))) (q_op op_mod ok_I (q_op op_fdiv ok_I (q_var 2) (q_int)) (q_int))))) <|
    qs_cons (q_ifs (q_tcmp op_eq ok_Eq (q_op op_mod ok_I (q_op op_fdiv ok_I (q_var 2) (q_int)) (q_int)) (q_int) (nomark _)) (qs_one (q_asg (q_tup (q_cons (q_int) (q_cons (q_int) (q_nil)))) (q_gtup rfl (q_gcons (q_gname 3 sc__law_machine_by.nd) (q_gcons (q_gname 4 sc__law_machine_by.nd) (q_gnil)))))) (qs_nil)) <|
    qs_cons (q_set (i := 5) sc__law_machine_by.nd (q_call (ok__law_table T) (hr.mono (by decide)) T.m__law_table T.F__law_table.kp T.b__law_table (takes_of rfl rfl rfl rfl) (q_cons (q_var 0) (q_cons (q_var 1) (q_cons (q_var 3) (q_cons (q_var 4) (q_nil))))))) <|
    qs_cons (q_for (passes_of rfl) rfl (qi_range1 T.n_range (q_cons (q_var 3) (q_nil))) (q_gname 6 sc__law_machine_by.nd) (qs_one (q_for (passes_of rfl) rfl (qi_range1 T.n_range (q_cons (q_var 4) (q_nil))) (q_gname 7 sc__law_machine_by.nd) (qs_cons (q_set (i := 2) sc__law_machine_by.nd (q_fz (q_call (ok__law_next T) (hr.mono (by decide)) T.m__law_next T.F__law_next.kp T.b__law_next (takes_of rfl rfl rfl rfl) (q_cons (q_var 0) (q_cons (q_var 1) (q_nil)))))) <|
    qs_cons (q_ifs (PW.pt (qw_and (q_tcmp op_eq ok_Eq (q_op op_mod ok_I (q_var 2) (q_int)) (q_int) (nomark _)) (qw_and1 (q_tcmp op_notN ok_NotN (q_ixU (hu_of hr) (q_ixU (hu_of hr) (q_var 5) (q_var 6)) (q_var 7)) (q_non) (nomark _))))) (qs_one (q_sub (hu_of hr) (q_ixU (hu_of hr) (q_var 5) (q_var 6)) (q_var 7) (q_tup (q_cons (q_ixU (hu_of hr) (q_ixU (hu_of hr) (q_ixU (hu_of hr) (q_var 5) (q_var 6)) (q_var 7)) (q_int)) (q_cons (q_ixU (hu_of hr) (q_ixU (hu_of hr) (q_ixU (hu_of hr) (q_var 5) (q_var 6)) (q_var 7)) (q_int)) (q_cons (q_var 6) (q_nil))))))) (qs_nil)) <|
    qs_one (q_ifs (PW.pt (qw_and (q_tcmp op_gt ok_B0 (q_op op_mod ok_I (q_op op_fdiv ok_I (q_var 2) (q_int)) (q_int)) (q_int) (nomark _)) (qw_and1 (q_tcmp op_isN ok_IsN (q_ixU (hu_of hr) (q_ixU (hu_of hr) (q_var 5) (q_var 6)) (q_var 7)) (q_non) (nomark _))))) (qs_one (q_sub (hu_of hr) (q_ixU (hu_of hr) (q_var 5) (q_var 6)) (q_var 7) (q_tup (q_cons (q_op op_mod ok_I (q_op op_fdiv ok_I (q_var 2) (q_int)) (q_var 4)) (q_cons (q_ixU (hu_of hr) (q_str) (q_op op_mod ok_I (q_op op_fdiv ok_I (q_var 2) (q_int)) (q_int))) (q_cons (q_op op_mod ok_I (q_op op_fdiv ok_I (q_var 2) (q_int)) (q_var 3)) (q_nil))))))) (qs_nil)))))) <|
    qs_one (q_ret (q_mov 5))
theorem ok__law_seen (T : Txt K mg D) : FnOk P w K mg base (L2.CX P w) 1 D.a__law_seen D.d__law_seen ["_law_shot_here"] (spV K [.F] [.F] (W__law_seen D.A)) := by
  refine fn_ok T.F__law_seen sc__law_seen rfl rfl (by decide) (w' := w__law_seen D.A) (fun cdv A outer s H E hr => ?_) (fun ds P hl h => d__law_seen D.A ds P h)
  unfold w__law_seen
  exact qs_cons (q_asg (q_var 0) (q_gtup rfl (q_gcons (q_gname 1 sc__law_seen.nd) (q_gcons (q_gname 2 sc__law_seen.nd) (q_gcons (q_gname 3 sc__law_seen.nd) (q_gnil)))))) <|
    qs_cons (q_set (i := 4) sc__law_seen.nd (q_tupO (q_consN (q_lst (q_nil)) (q_consN (q_lst (q_nil)) (q_nilN))))) <|
    qs_cons (q_for (passes_of rfl) rfl (qi_seq (q_tup (q_cons (q_tup (q_cons (q_int) (q_cons (q_un un_neg ok_Neg (q_int)) (q_nil)))) (q_cons (q_tup (q_cons (q_int) (q_cons (q_int) (q_nil)))) (q_nil))))) (q_gtup rfl (q_gcons (q_gname 5 sc__law_seen.nd) (q_gcons (q_gname 6 sc__law_seen.nd) (q_gnil)))) (qs_cons (q_setLcF (own := [("_law_spot", 7)]) [] rfl sc__law_seen.nd (qi_seq (q_callB cr_sortedI ok_Sorted (by rfl) T.n_sorted (by rfl) (q_cons (q_callTy (call_listU rfl) ok_List (by rfl) T.n_list (by rfl) (q_cons (q_var 3) (q_nil))) (q_nil)))) (blkOk_by (N := ["_law_shot_here", "_law_state", "_law_place", "_law_cells", "_law_rows", "_law_which", "_law_way", "_law_spot", "_law_spots", "_law_last", "_law_off", "_law_sign"]) (sc := defScope s__law_seen) (by decide +kernel)) (fun _ _ _ _ _ => q_gname 7 sc__law_seen.nd) (fun _ _ _ _ _ => q_tsone (q_tcmp (op_eqD (hu64 hr)) ok_EqX (q_cmp op_lt ok_B0 (q_var 7) (q_var 2) (nomark _)) (q_cmp (op_eqD (hu64 hr)) ok_EqX (q_var 5) (q_int) (nomark _)) (nomark _))) (fun _ _ _ _ _ => q_op op_addU ok_Add (q_op op_sub ok_I0 (q_op op_mulU ok_Mul (q_op op_sub ok_I0 (q_var 7) (q_var 2)) (q_var 6)) (q_int)) (q_var 5))) <|
    qs_cons (q_set (i := 9) sc__law_seen.nd (q_fz (q_un un_neg ok_Neg (q_int)))) <|
    qs_one (q_for (passes_of rfl) rfl (qi_seq (q_callB cr_sortedI ok_Sorted (by rfl) T.n_sorted (by rfl) (q_cons (q_var 8) (q_nil)))) (q_gname 10 sc__law_seen.nd) (qs_cons (q_set (i := 11) sc__law_seen.nd (q_fz (q_ixU (hu_of hr) (q_var 3) (q_op op_addU ok_Add (q_var 2) (q_op op_mulU ok_Mul (q_var 6) (q_op op_sub ok_I0 (q_op op_addU ok_Add (q_var 10) (q_int)) (q_var 5))))))) <|
    qs_cons (q_ifs (q_tcmp op_gt ok_B0 (q_var 10) (q_op op_addU ok_Add (q_var 9) (q_int)) (nomark _)) (qs_one (q_expr (q_lm PySem.F.slot_list_append PySem.F.type_list_append mt_append ok_App (q_ixU (hu_of hr) (q_var 4) (q_var 5)) (q_cons (q_tup (q_cons (q_int) (q_cons (q_op op_sub ok_I0 (q_op op_sub ok_I0 (q_var 10) (q_var 9)) (q_int)) (q_nil)))) (q_nil))))) (qs_nil)) <|
    qs_cons (q_ifs (PW.pt (qw_and (q_tcmp (op_eqD (hu64 hr)) ok_EqX (q_var 10) (q_op op_addU ok_Add (q_var 9) (q_int)) (nomark _)) (qw_and (q_tcmp op_gt ok_B0 (q_callB call_lenU ok_Len (by rfl) T.n_len (by rfl) (q_cons (q_ixU (hu_of hr) (q_var 4) (q_var 5)) (q_nil))) (q_int) (nomark _)) (qw_and1 (q_tcmp (op_eqD (hu64 hr)) ok_EqX (q_ixU (hu_of hr) (q_ixU (hu_of hr) (q_ixU (hu_of hr) (q_var 4) (q_var 5)) (q_un un_neg ok_Neg (q_int))) (q_int)) (q_var 11) (nomark _)))))) (qs_one (q_sub (hu_of hr) (q_ixU (hu_of hr) (q_var 4) (q_var 5)) (q_un un_neg ok_Neg (q_int)) (q_tup (q_cons (q_var 11) (q_cons (q_op op_addU ok_Add (q_ixU (hu_of hr) (q_ixU (hu_of hr) (q_ixU (hu_of hr) (q_var 4) (q_var 5)) (q_un un_neg ok_Neg (q_int))) (q_int)) (q_int)) (q_nil)))))) (qs_one (q_expr (q_lm PySem.F.slot_list_append PySem.F.type_list_append mt_append ok_App (q_ixU (hu_of hr) (q_var 4) (q_var 5)) (q_cons (q_tup (q_cons (q_var 11) (q_cons (q_int) (q_nil)))) (q_nil)))))) <|
    qs_one (q_set (i := 9) sc__law_seen.nd (q_fz (q_var 10))))))) <|
    qs_one (q_ret (q_tup (q_cons (q_var 1) (q_cons (q_ixU (hu_of hr) (q_frz 4) (q_int)) (q_cons (q_ixU (hu_of hr) (q_frz 4) (q_int)) (q_nil))))))
theorem ok__law_fast (T : Txt K mg D) : FnOk P w K mg base (L2.CX P w) 5 D.a__law_fast D.d__law_fast ["_law_machine", "_law_stretches", "_law_steps", "_law_most"] (spV K [.F, .F, .F, .F] [.F, .F, .F, .F] (W__law_fast D.A)) := by
  refine fn_ok T.F__law_fast sc__law_fast rfl rfl (by decide) (w' := w__law_fast D.A) (fun cdv A outer s H E hr => ?_) (fun ds P hl h => d__law_fast D.A ds P h)
  unfold w__law_fast
  exact qs_cons (q_set (i := 4) sc__law_fast.nd (q_fz (q_non))) <|
    qs_cons (q_tryO T.xm_TooLong_TooLong T.m_TooLong (takes_of rfl rfl rfl rfl) (fun _ _ _ tk _ => (qs_one (q_set (i := 4) sc__law_fast.nd (q_fz (q_call (ok_fast_from T) (hr.mono (by decide)) T.m_fast_from T.F_fast_from.kp T.b_fast_from tk (q_cons (q_var 0) (q_cons (q_var 1) (q_cons (q_var 2) (q_cons (q_var 3) (q_nil)))))))))) (fun _ _ _ => (qs_one (q_set (i := 4) sc__law_fast.nd (q_fz (q_str)))))) <|
    qs_one (q_ret (q_var 4))
theorem ok__law_far (T : Txt K mg D) : FnOk P w K mg base (L2.CX P w) 2 D.a__law_far D.d__law_far ["_law_script", "_law_at"] (spV K [.F, .P (.L .F)] [.F, .P (.L .F)] (W__law_far D.A)) := by
  refine fn_ok T.F__law_far sc__law_far rfl rfl (by decide) (w' := w__law_far D.A) (fun cdv A outer s H E hr => ?_) (fun ds P hl h => d__law_far D.A ds P h)
  unfold w__law_far
  exact qs_cons (q_set (i := 2) sc__law_far.nd (q_fz (q_call (ok__law_next T) (hr.mono (by decide)) T.m__law_next T.F__law_next.kp T.b__law_next (takes_of rfl rfl rfl rfl) (q_cons (q_var 0) (q_cons (q_var 1) (q_nil)))))) <|
    qs_cons (q_set (i := 3) sc__law_far.nd (q_fz (q_if (q_tcmp op_gt ok_B0 (q_callB call_lenU ok_Len (by rfl) T.n_len (by rfl) (q_cons (q_var 0) (q_nil))) (q_int) (nomark _)) (q_ixU (hu_of hr) (q_var 0) (q_op op_mod ok_I (q_ixU (hu_of hr) (q_var 1) (q_int)) (q_callB call_lenU ok_Len (by rfl) T.n_len (by rfl) (q_cons (q_var 0) (q_nil))))) (q_int)))) <|
    qs_cons (q_set (i := 4) sc__law_far.nd (q_fz (q_int))) <|
    qs_cons (q_for (passes_of rfl) rfl (qi_range1 T.n_range (q_cons (q_op op_mod ok_I (q_op op_fdiv ok_I (q_var 2) (q_int)) (q_int)) (q_nil))) (q_gname 5 sc__law_far.nd) (qs_one (q_set (i := 4) sc__law_far.nd (q_fz (q_op op_mulU ok_Mul (q_var 4) (q_int)))))) <|
    qs_one (q_ret (q_op op_addU ok_Add (q_int) (q_op op_mod ok_I (q_op op_addU ok_Add (q_op op_mod ok_I (q_var 3) (q_op op_pow ok_I (q_int) (q_int))) (q_op op_mulU ok_Mul (q_var 2) (q_op op_pow ok_I (q_int) (q_int)))) (q_var 4))))
theorem ok__law_walk (T : Txt K mg D) : FnOk P w K mg base (L2.CX P w) 1 D.a__law_walk D.d__law_walk ["_law_table_here", "_law_shot_here", "_law_steps"] (spM K [.F, .T [.F, .F, .K], .F] (W__law_walk D.A)) := by
  refine fn_okM T.F__law_walk sc__law_walk rfl (by decide) (w' := w__law_walk D.A) (fun cdv A outer s H E hr => ?_) (fun ds P hl h => d__law_walk D.A ds P h)
  unfold w__law_walk
  exact qs_cons (q_asgO rfl (q_mov 1) (pgs_namesC sc__law_walk.nd (pgs_namesC sc__law_walk.nd (pgs_namesC sc__law_walk.nd pgs_names0)))) <|
    qs_cons (q_set (i := 6) sc__law_walk.nd (q_fz (q_int))) <|
    qs_cons (q_while (passes_of rfl) (q_tcmp op_lt ok_B0 (q_var 6) (q_var 2) (nomark _)) (qs_cons (q_set (i := 7) sc__law_walk.nd (q_fz (q_ixU (hu_of hr) (q_ixU (hu_of hr) (q_var 0) (q_var 3)) (q_get (hu_of hr) (q_var 5) (q_cons (q_var 4) (q_cons (q_int) (q_nil))))))) <|
    qs_cons (q_ifs (q_tcmp op_isN ok_IsN (q_var 7) (q_non) (nomark _)) (qs_one (q_ret (q_tupO (q_consN (q_tupO (q_consN (q_var 3) (q_consN (q_var 4) (q_consN (q_mov 5) (q_nilN))))) (q_consN (q_var 6) (q_nilN)))))) (qs_nil)) <|
    qs_cons (q_sub (hu_of hr) (q_var 5) (q_var 4) (q_ixU (hu_of hr) (q_var 7) (q_int))) <|
    qs_cons (q_ifs (q_tcmp op_eq ok_Eq (q_ixU (hu_of hr) (q_var 7) (q_int)) (q_int) (nomark _)) (qs_one (q_expr (q_popD (q_var 5) (q_cons (q_var 4) (q_nil))))) (qs_nil)) <|
    qs_cons (q_set (i := 4) sc__law_walk.nd (q_fz (q_if (q_tcmp op_eq ok_Eq (q_ixU (hu_of hr) (q_var 7) (q_int)) (q_str) (nomark _)) (q_op op_addU ok_Add (q_var 4) (q_int)) (q_op op_sub ok_I0 (q_var 4) (q_int))))) <|
    qs_cons (q_set (i := 3) sc__law_walk.nd (q_fz (q_ixU (hu_of hr) (q_var 7) (q_int)))) <|
    qs_one (q_set (i := 6) sc__law_walk.nd (q_fz (q_op op_addU ok_Add (q_var 6) (q_int)))))) <|
    qs_one (q_ret (q_tupO (q_consN (q_tupO (q_consN (q_var 3) (q_consN (q_var 4) (q_consN (q_mov 5) (q_nilN))))) (q_consN (q_var 6) (q_nilN)))))
theorem ok__law_great_end (T : Txt K mg D) : FnOk P w K mg base (L2.CX P w) 7 D.a__law_great_end D.d__law_great_end ["_law_machine", "_law_stretches", "_law_far_here", "_law_cut"] (spV K [.F, .F, .F, .F] [.F, .F, .F, .F] (W__law_great_end D.A)) := by
  refine fn_ok T.F__law_great_end sc__law_great_end rfl rfl (by decide) (w' := w__law_great_end D.A) (fun cdv A outer s H E hr => ?_) (fun ds P hl h => d__law_great_end D.A ds P h)
  unfold w__law_great_end
  exact qs_cons (q_set (i := 4) sc__law_great_end.nd (q_fz (q_call (ok__law_fast T) (hr.mono (by decide)) T.m__law_fast T.F__law_fast.kp T.b__law_fast (takes_of rfl rfl rfl rfl) (q_cons (q_var 0) (q_cons (q_var 1) (q_cons (q_var 2) (q_cons (q_int) (q_nil)))))))) <|
    qs_cons (q_ifs (q_tcmp (op_eqD (hu64 hr)) ok_EqX (q_var 4) (q_str) (nomark _)) (qs_one (q_ret (q_bl))) (qs_nil)) <|
    qs_cons (q_set (i := 5) sc__law_great_end.nd (q_fz (q_call (ok__law_fast T) (hr.mono (by decide)) T.m__law_fast T.F__law_fast.kp T.b__law_fast (takes_of rfl rfl rfl rfl) (q_cons (q_var 0) (q_cons (q_var 1) (q_cons (q_var 3) (q_cons (q_int) (q_nil)))))))) <|
    qs_cons (q_ifs (PW.pt (qw_or (q_tcmp (op_eqD (hu64 hr)) ok_EqX (q_var 5) (q_str) (nomark _)) (qw_or1 (q_tcmp op_isN ok_IsN (q_var 5) (q_non) (nomark _))))) (qs_one (q_ret (q_bl))) (qs_nil)) <|
    qs_cons (q_set (i := 6) sc__law_great_end.nd (q_fz (q_call (ok__law_fast T) (hr.mono (by decide)) T.m__law_fast T.F__law_fast.kp T.b__law_fast (takes_of rfl rfl rfl rfl) (q_cons (q_var 0) (q_cons (q_ixU (hu_of hr) (q_var 5) (q_int)) (q_cons (q_op op_sub ok_I0 (q_var 2) (q_var 3)) (q_cons (q_int) (q_nil)))))))) <|
    qs_cons (q_ifs (PW.pt (qw_or (q_tcmp (op_eqD (hu64 hr)) ok_EqX (q_var 6) (q_str) (nomark _)) (qw_or1 (q_tcmp op_isN ok_IsN (q_var 6) (q_non) (nomark _))))) (qs_one (q_ret (q_bl))) (qs_nil)) <|
    qs_one (q_ret (q_call (ok__law_same T 6) (hr.mono (by decide)) T.m__law_same T.F__law_same.kp T.b__law_same (takes_of rfl rfl rfl rfl) (q_cons (q_tup (q_cons (q_ixU (hu_of hr) (q_var 6) (q_int)) (q_cons (q_op op_addU ok_Add (q_ixU (hu_of hr) (q_var 5) (q_int)) (q_ixU (hu_of hr) (q_var 6) (q_int))) (q_cons (q_op op_addU ok_Add (q_ixU (hu_of hr) (q_var 5) (q_int)) (q_ixU (hu_of hr) (q_var 6) (q_int))) (q_nil))))) (q_cons (q_sl (q_var 4) (q_no) (q_so (q_int))) (q_nil)))))
theorem ok__law_stretch (T : Txt K mg D) : FnOk P w K mg base (L2.CX P w) 7 D.a__law_stretch D.d__law_stretch ["_law_machine", "_law_table_here", "_law_shot_here", "_law_stretches", "_law_steps"] (spM K [.F, .F, .T [.F, .F, .K], .F, .F] (W__law_stretch D.A)) := by
  refine fn_okM T.F__law_stretch sc__law_stretch rfl (by decide) (w' := w__law_stretch D.A) (fun cdv A outer s H E hr => ?_) (fun ds P hl h => d__law_stretch D.A ds P h)
  unfold w__law_stretch
  exact qs_cons (q_set (i := 5) sc__law_stretch.nd (q_fz (q_ixU (hu_of hr) (q_var 2) (q_int)))) <|
    qs_cons (q_asgO rfl (q_callN (ok__law_walk T) (hr.mono (by decide)) T.m__law_walk T.F__law_walk.kp T.b__law_walk (takes_of rfl rfl rfl rfl) (q_consN (q_var 1) (q_consN (q_mov 2) (q_consN (q_var 4) (q_nilN))))) (pgs_namesC sc__law_stretch.nd (pgs_namesC sc__law_stretch.nd pgs_names0))) <|
    qs_cons (q_set (i := 7) sc__law_stretch.nd (q_fz (q_call (ok__law_fast T) (hr.mono (by decide)) T.m__law_fast T.F__law_fast.kp T.b__law_fast (takes_of rfl rfl rfl rfl) (q_cons (q_var 0) (q_cons (q_var 3) (q_cons (q_var 4) (q_cons (q_var 4) (q_nil)))))))) <|
    qs_cons (q_ifs (PW.pt (qw_or (q_tcmp (op_eqD (hu64 hr)) ok_EqX (q_var 7) (q_str) (nomark _)) (qw_or1 (q_not (q_tval (q_call (ok__law_same T 6) (hr.mono (by decide)) T.m__law_same T.F__law_same.kp T.b__law_same (takes_of rfl rfl rfl rfl) (q_cons (q_sl (q_var 7) (q_no) (q_so (q_int))) (q_cons (q_tup (q_cons (q_lendD 2 (q_call (ok__law_seen T) (hr.mono (by decide)) T.m__law_seen T.F__law_seen.kp T.b__law_seen (takes_of rfl rfl rfl rfl) (q_cons (q_var 2) (q_nil)))) (q_cons (q_op op_sub ok_I0 (q_ixU (hu_of hr) (q_var 2) (q_int)) (q_var 5)) (q_cons (q_var 6) (q_nil))))) (q_nil))))))))) (qs_one (q_ret (q_non))) (qs_nil)) <|
    qs_cons (q_ifs (q_not (q_tchain op_le op_le ok_B0 ok_B0 (q_int) (q_ixU (hu_of hr) (q_var 7) (q_int)) (q_var 6))) (qs_one (q_ret (q_non))) (qs_nil)) <|
    qs_one (q_ret (q_tupO (q_consN (q_mov 2) (q_consN (q_ixU (hu_of hr) (q_var 7) (q_int)) (q_consN (q_var 6) (q_nilN))))))
theorem ok_law (T : Txt K mg D) : FnOk P w K mg base (L2.CX P w) 8 D.a_law D.d_law ["_law_script"] (spV K [.F] [.F] (W_law D.A)) := by
  refine fn_ok T.F_law sc_law rfl rfl (by decide) (w' := w_law D.A) (fun cdv A outer s H E hr => ?_) (fun ds P hl h => d_law D.A ds P h)
  unfold w_law
  exact qs_cons (q_set (i := 1) sc_law.nd (q_lst (q_cons (q_int) (q_nil)))) <|
    qs_cons (q_set (i := 2) sc_law.nd (q_fz (q_call (ok__law_machine_by T) (hr.mono (by decide)) T.m__law_machine_by T.F__law_machine_by.kp T.b__law_machine_by (takes_of rfl rfl rfl rfl) (q_cons (q_var 0) (q_cons (q_var 1) (q_nil)))))) <|
    qs_cons (q_set (i := 3) sc_law.nd (q_fz (q_make T.mk_Machine (ok_Machine_init T) (hr.mono (by decide)) T.m_Machine T.b_Machine_init (takes_of rfl rfl rfl rfl) (q_cons (q_var 2) (q_nil))))) <|
    qs_cons (q_set (i := 4) sc_law.nd (q_tupO (q_consN (q_int) (q_consN (q_int) (q_consN (q_dic) (q_nilN)))))) <|
    qs_cons (q_set (i := 5) sc_law.nd (q_fz (q_tup (q_cons (q_int) (q_cons (q_lst (q_nil)) (q_cons (q_lst (q_nil)) (q_nil))))))) <|
    qs_cons (q_set (i := 6) sc_law.nd (q_fz (q_int))) <|
    qs_cons (q_for (passes_of rfl) rfl (qi_enum T.n_enumerate (q_cons (q_sl (q_var 0) (q_no) (q_so (q_int))) (q_nil))) (q_gtup rfl (q_gcons (q_gname 7 sc_law.nd) (q_gcons (q_gname 8 sc_law.nd) (q_gnil)))) (qs_cons (q_set (i := 9) sc_law.nd (q_fz (q_callB (call_min2 rfl) ok_Min2 (by rfl) T.n_min (by rfl) (q_cons (q_op op_mod ok_I (q_op op_addU ok_Add (q_op op_mod ok_I (q_var 8) (q_int)) (q_call (ok__law_next T) (hr.mono (by decide)) T.m__law_next T.F__law_next.kp T.b__law_next (takes_of rfl rfl rfl rfl) (q_cons (q_var 0) (q_cons (q_var 1) (q_nil))))) (q_int)) (q_cons (q_op op_sub ok_I0 (q_int) (q_var 6)) (q_nil)))))) <|
    qs_cons (q_set (i := 10) sc_law.nd (q_callN (ok__law_stretch T) (hr.mono (by decide)) T.m__law_stretch T.F__law_stretch.kp T.b__law_stretch (takes_of rfl rfl rfl rfl) (q_consN (q_var 3) (q_consN (q_var 2) (q_consN (q_mov 4) (q_consN (q_var 5) (q_consN (q_var 9) (q_nilN)))))))) <|
    qs_cons (q_ifs (q_tcmp op_isN ok_IsN (q_var 10) (q_non) (nomark _)) (qs_one (q_ret (q_bl))) (qs_nil)) <|
    q_part (ps_par rfl sc_law.nd rfl rfl (by decide) rfl rfl (pa_cons (pe_ix ix_seq (pv 10) pe_int (fun _ _ => rfl)) (pa_cons (pe_ix ix_seq (pv 10) pe_int (fun _ _ => rfl)) pa_nil)) rfl) (ps_set sc_law.nd rfl (Or.inl rfl) (pe_op op_add (pv 6) (pe_ix ix_seq (pv 10) pe_int (fun _ _ => rfl)))) <|
    qs_one (q_ifs (PW.pt (qw_and (q_tcmp op_eq ok_Eq (q_op op_mod ok_I (q_var 7) (q_int)) (q_int) (nomark _)) (qw_and1 (q_not (q_tval (q_call (ok__law_same T 6) (hr.mono (by decide)) T.m__law_same T.F__law_same.kp T.b__law_same (takes_of rfl rfl rfl rfl) (q_cons (q_callD (ok_fast_after T) (hr.mono (by decide)) T.m_fast_after T.F_fast_after.kp T.b2_fast_after T.v2_fast_after (fun _ => (.cons (.int _) .nil)) (takes_of rfl rfl rfl rfl) (q_cons (q_var 3) (q_cons (q_var 6) (q_nil)))) (q_cons (q_tup (q_cons (q_lendD 4 (q_call (ok__law_shot T) (hr.mono (by decide)) T.m__law_shot T.F__law_shot.kp T.b__law_shot (takes_of rfl rfl rfl rfl) (q_cons (q_var 4) (q_nil)))) (q_cons (q_var 6) (q_nil)))) (q_nil))))))))) (qs_one (q_ret (q_bl))) (qs_nil)))) <|
    qs_cons (q_set (i := 11) sc_law.nd (q_fz (q_call (ok__law_far T) (hr.mono (by decide)) T.m__law_far T.F__law_far.kp T.b__law_far (takes_of rfl rfl rfl rfl) (q_cons (q_var 0) (q_cons (q_var 1) (q_nil)))))) <|
    qs_one (q_ret (q_call (ok__law_great_end T) (hr.mono (by decide)) T.m__law_great_end T.F__law_great_end.kp T.b__law_great_end (takes_of rfl rfl rfl rfl) (q_cons (q_var 3) (q_cons (q_var 5) (q_cons (q_var 11) (q_cons (q_op op_mod ok_I (q_call (ok__law_far T) (hr.mono (by decide)) T.m__law_far T.F__law_far.kp T.b__law_far (takes_of rfl rfl rfl rfl) (q_cons (q_var 0) (q_cons (q_var 1) (q_nil)))) (q_op op_addU ok_Add (q_var 11) (q_int))) (q_nil)))))))
end

end My

namespace My
open PySem PySem.Spec PyProof.Rows L2 VL
def cs0 : Cs := ⟨0, 0, 0, 0, 0, 0, 0, 0, 0, 0, 0, 0, 0, 0⟩
theorem all_mk {l : PySem.W.OpenLaw} {w : World} {K : PySem.W.Frag} {h : Heap} {mg : Str → Option Value} {fa f_is_number f_entry_kept f_Machine_init f_states_of f_signs_of f_ask_row f_ask_stretches f_marks_along f_shot_of f_put f_drop f_near_sign f_near_count f_Ribbon_init f_Ribbon_entry f_Ribbon_leap f_Ribbon_told f_ask_for f_fast_from f_fast_after f__law_next f__law_same f__law_table f__law_shot f__law_machine_by f__law_seen f__law_fast f__law_far f__law_walk f__law_great_end f__law_stretch f_law qd_fast_after C_Machine C_Ribbon C_TooLong : Addr} (X : K.In h) (G : h.Ns mainGlobals mg) (hfa : mg "law" = some (.ref fa))
    {od_is_number an_is_number od_entry_kept an_entry_kept od_Machine_init an_Machine_init od_states_of an_states_of od_signs_of an_signs_of od_ask_row an_ask_row od_ask_stretches an_ask_stretches od_marks_along an_marks_along od_shot_of an_shot_of od_put an_put od_drop an_drop od_near_sign an_near_sign od_near_count an_near_count od_Ribbon_init an_Ribbon_init od_Ribbon_entry an_Ribbon_entry od_Ribbon_leap an_Ribbon_leap od_Ribbon_told an_Ribbon_told od_ask_for an_ask_for od_fast_from an_fast_from od_fast_after an_fast_after od_qdfast_after od__law_next an__law_next od__law_same an__law_same od__law_table an__law_table od__law_shot an__law_shot od__law_machine_by an__law_machine_by od__law_seen an__law_seen od__law_fast an__law_fast od__law_far an__law_far od__law_walk an__law_walk od__law_great_end an__law_great_end od__law_stretch an__law_stretch od_law an_law : Option Addr} {sl_is_number sl_entry_kept sl_Machine_init sl_states_of sl_signs_of sl_ask_row sl_ask_stretches sl_marks_along sl_shot_of sl_put sl_drop sl_near_sign sl_near_count sl_Ribbon_init sl_Ribbon_entry sl_Ribbon_leap sl_Ribbon_told sl_ask_for sl_fast_from sl_fast_after sl_qdfast_after sl__law_next sl__law_same sl__law_table sl__law_shot sl__law_machine_by sl__law_seen sl__law_fast sl__law_far sl__law_walk sl__law_great_end sl__law_stretch sl_law : Array (Option Value)} {oc_is_number kV_is_number dc_is_number pm_is_number cd_is_number ct_is_number oc_entry_kept kV_entry_kept dc_entry_kept pm_entry_kept cd_entry_kept ct_entry_kept oc_Machine_init kV_Machine_init dc_Machine_init pm_Machine_init cd_Machine_init ct_Machine_init oc_states_of kV_states_of dc_states_of pm_states_of cd_states_of ct_states_of oc_signs_of kV_signs_of dc_signs_of pm_signs_of cd_signs_of ct_signs_of oc_ask_row kV_ask_row dc_ask_row pm_ask_row cd_ask_row ct_ask_row oc_ask_stretches kV_ask_stretches dc_ask_stretches pm_ask_stretches cd_ask_stretches ct_ask_stretches oc_marks_along kV_marks_along dc_marks_along pm_marks_along cd_marks_along ct_marks_along oc_shot_of kV_shot_of dc_shot_of pm_shot_of cd_shot_of ct_shot_of oc_put kV_put dc_put pm_put cd_put ct_put oc_drop kV_drop dc_drop pm_drop cd_drop ct_drop oc_near_sign kV_near_sign dc_near_sign pm_near_sign cd_near_sign ct_near_sign oc_near_count kV_near_count dc_near_count pm_near_count cd_near_count ct_near_count oc_Ribbon_init kV_Ribbon_init dc_Ribbon_init pm_Ribbon_init cd_Ribbon_init ct_Ribbon_init oc_Ribbon_entry kV_Ribbon_entry dc_Ribbon_entry pm_Ribbon_entry cd_Ribbon_entry ct_Ribbon_entry oc_Ribbon_leap kV_Ribbon_leap dc_Ribbon_leap pm_Ribbon_leap cd_Ribbon_leap ct_Ribbon_leap oc_Ribbon_told kV_Ribbon_told dc_Ribbon_told pm_Ribbon_told cd_Ribbon_told ct_Ribbon_told oc_ask_for kV_ask_for dc_ask_for pm_ask_for cd_ask_for ct_ask_for oc_fast_from kV_fast_from dc_fast_from pm_fast_from cd_fast_from ct_fast_from oc_fast_after kV_fast_after dc_fast_after pm_fast_after cd_fast_after ct_fast_after oc__law_next kV__law_next dc__law_next pm__law_next cd__law_next ct__law_next oc__law_same kV__law_same dc__law_same pm__law_same cd__law_same ct__law_same oc__law_table kV__law_table dc__law_table pm__law_table cd__law_table ct__law_table oc__law_shot kV__law_shot dc__law_shot pm__law_shot cd__law_shot ct__law_shot oc__law_machine_by kV__law_machine_by dc__law_machine_by pm__law_machine_by cd__law_machine_by ct__law_machine_by oc__law_seen kV__law_seen dc__law_seen pm__law_seen cd__law_seen ct__law_seen oc__law_fast kV__law_fast dc__law_fast pm__law_fast cd__law_fast ct__law_fast oc__law_far kV__law_far dc__law_far pm__law_far cd__law_far ct__law_far oc__law_walk kV__law_walk dc__law_walk pm__law_walk cd__law_walk ct__law_walk oc__law_great_end kV__law_great_end dc__law_great_end pm__law_great_end cd__law_great_end ct__law_great_end oc__law_stretch kV__law_stretch dc__law_stretch pm__law_stretch cd__law_stretch ct__law_stretch oc_law kV_law dc_law pm_law cd_law ct_law : Value} {td_fast_after_0 : PySem.Tok} {n_qdfast_after : Nat}
    (aC_TooLong : PySem.W.nsIn K mainGlobals "TooLong" = some (some (.ref C_TooLong)))
    (r1_TooLong : PySem.W.excIn K C_TooLong [.type "ValueError", .type "Exception", .type "BaseException", .type "object"] "ValueError.__new__" = true)
    (r2_TooLong : PySem.W.subIn K (.ref C_TooLong) (.type "BaseException") = some true)
    (r3_TooLong : PySem.W.typeIn K (.ref C_TooLong) = some (.type "type"))
    (r4_TooLong : PySem.W.keepIn K (.ref C_TooLong) = true)
    (ic_TooLong : PySem.W.isClsIn K C_TooLong = true)
    (it_TooLong : PySem.W.typeIn K (.ref C_TooLong) = some (.type "type"))
    (is_TooLong : PySem.W.subIn K (.ref C_TooLong) (.ref C_TooLong) = some true)
    (sb_TooLong_TooLong : PySem.W.subIn K (.ref C_TooLong) (.ref C_TooLong) = some true)
    (xb_TooLong : PySem.W.subIn K (.ref C_TooLong) (.type "BaseException") = some true)
    (aC_Machine : PySem.W.nsIn K mainGlobals "Machine" = some (some (.ref C_Machine)))
    (aC_Ribbon : PySem.W.nsIn K mainGlobals "Ribbon" = some (some (.ref C_Ribbon)))
    (a_is_number : PySem.W.nsIn K mainGlobals "is_number" = some (some (.ref f_is_number)))
    (l_is_number : K.lookup f_is_number = some ⟨oc_is_number, od_is_number, .func (PySem.W.fnOf "is_number" "is_number" (defArgs s_is_number) (defBody s_is_number) (defScope s_is_number) .none kV_is_number dc_is_number pm_is_number an_is_number cd_is_number ct_is_number), sl_is_number⟩)
    (c_is_number : PySem.W.codeIn K cd_is_number "is_number" = true)
    (k_is_number : PySem.W.keepIn K (.ref f_is_number) = true)
    (a_entry_kept : PySem.W.nsIn K mainGlobals "entry_kept" = some (some (.ref f_entry_kept)))
    (l_entry_kept : K.lookup f_entry_kept = some ⟨oc_entry_kept, od_entry_kept, .func (PySem.W.fnOf "entry_kept" "entry_kept" (defArgs s_entry_kept) (defBody s_entry_kept) (defScope s_entry_kept) .none kV_entry_kept dc_entry_kept pm_entry_kept an_entry_kept cd_entry_kept ct_entry_kept), sl_entry_kept⟩)
    (c_entry_kept : PySem.W.codeIn K cd_entry_kept "entry_kept" = true)
    (k_entry_kept : PySem.W.keepIn K (.ref f_entry_kept) = true)
    (a_Machine_init : PySem.W.findIn K (.ref C_Machine) "__init__" = some (some (.ref f_Machine_init)))
    (i_Machine_init : PySem.W.isFn K (.ref f_Machine_init) = true)
    (l_Machine_init : K.lookup f_Machine_init = some ⟨oc_Machine_init, od_Machine_init, .func (PySem.W.fnOf "__init__" "Machine.__init__" (defArgs s_Machine_init) (defBody s_Machine_init) (defScope s_Machine_init) .none kV_Machine_init dc_Machine_init pm_Machine_init an_Machine_init cd_Machine_init ct_Machine_init), sl_Machine_init⟩)
    (c_Machine_init : PySem.W.codeIn K cd_Machine_init "Machine.__init__" = true)
    (k_Machine_init : PySem.W.keepIn K (.ref f_Machine_init) = true)
    (a_states_of : PySem.W.nsIn K mainGlobals "states_of" = some (some (.ref f_states_of)))
    (l_states_of : K.lookup f_states_of = some ⟨oc_states_of, od_states_of, .func (PySem.W.fnOf "states_of" "states_of" (defArgs s_states_of) (defBody s_states_of) (defScope s_states_of) .none kV_states_of dc_states_of pm_states_of an_states_of cd_states_of ct_states_of), sl_states_of⟩)
    (c_states_of : PySem.W.codeIn K cd_states_of "states_of" = true)
    (k_states_of : PySem.W.keepIn K (.ref f_states_of) = true)
    (a_signs_of : PySem.W.nsIn K mainGlobals "signs_of" = some (some (.ref f_signs_of)))
    (l_signs_of : K.lookup f_signs_of = some ⟨oc_signs_of, od_signs_of, .func (PySem.W.fnOf "signs_of" "signs_of" (defArgs s_signs_of) (defBody s_signs_of) (defScope s_signs_of) .none kV_signs_of dc_signs_of pm_signs_of an_signs_of cd_signs_of ct_signs_of), sl_signs_of⟩)
    (c_signs_of : PySem.W.codeIn K cd_signs_of "signs_of" = true)
    (k_signs_of : PySem.W.keepIn K (.ref f_signs_of) = true)
    (a_ask_row : PySem.W.nsIn K mainGlobals "ask_row" = some (some (.ref f_ask_row)))
    (l_ask_row : K.lookup f_ask_row = some ⟨oc_ask_row, od_ask_row, .func (PySem.W.fnOf "ask_row" "ask_row" (defArgs s_ask_row) (defBody s_ask_row) (defScope s_ask_row) .none kV_ask_row dc_ask_row pm_ask_row an_ask_row cd_ask_row ct_ask_row), sl_ask_row⟩)
    (c_ask_row : PySem.W.codeIn K cd_ask_row "ask_row" = true)
    (k_ask_row : PySem.W.keepIn K (.ref f_ask_row) = true)
    (a_ask_stretches : PySem.W.nsIn K mainGlobals "ask_stretches" = some (some (.ref f_ask_stretches)))
    (l_ask_stretches : K.lookup f_ask_stretches = some ⟨oc_ask_stretches, od_ask_stretches, .func (PySem.W.fnOf "ask_stretches" "ask_stretches" (defArgs s_ask_stretches) (defBody s_ask_stretches) (defScope s_ask_stretches) .none kV_ask_stretches dc_ask_stretches pm_ask_stretches an_ask_stretches cd_ask_stretches ct_ask_stretches), sl_ask_stretches⟩)
    (c_ask_stretches : PySem.W.codeIn K cd_ask_stretches "ask_stretches" = true)
    (k_ask_stretches : PySem.W.keepIn K (.ref f_ask_stretches) = true)
    (a_marks_along : PySem.W.nsIn K mainGlobals "marks_along" = some (some (.ref f_marks_along)))
    (l_marks_along : K.lookup f_marks_along = some ⟨oc_marks_along, od_marks_along, .func (PySem.W.fnOf "marks_along" "marks_along" (defArgs s_marks_along) (defBody s_marks_along) (defScope s_marks_along) .none kV_marks_along dc_marks_along pm_marks_along an_marks_along cd_marks_along ct_marks_along), sl_marks_along⟩)
    (c_marks_along : PySem.W.codeIn K cd_marks_along "marks_along" = true)
    (k_marks_along : PySem.W.keepIn K (.ref f_marks_along) = true)
    (a_shot_of : PySem.W.nsIn K mainGlobals "shot_of" = some (some (.ref f_shot_of)))
    (l_shot_of : K.lookup f_shot_of = some ⟨oc_shot_of, od_shot_of, .func (PySem.W.fnOf "shot_of" "shot_of" (defArgs s_shot_of) (defBody s_shot_of) (defScope s_shot_of) .none kV_shot_of dc_shot_of pm_shot_of an_shot_of cd_shot_of ct_shot_of), sl_shot_of⟩)
    (c_shot_of : PySem.W.codeIn K cd_shot_of "shot_of" = true)
    (k_shot_of : PySem.W.keepIn K (.ref f_shot_of) = true)
    (a_put : PySem.W.nsIn K mainGlobals "put" = some (some (.ref f_put)))
    (l_put : K.lookup f_put = some ⟨oc_put, od_put, .func (PySem.W.fnOf "put" "put" (defArgs s_put) (defBody s_put) (defScope s_put) .none kV_put dc_put pm_put an_put cd_put ct_put), sl_put⟩)
    (c_put : PySem.W.codeIn K cd_put "put" = true)
    (k_put : PySem.W.keepIn K (.ref f_put) = true)
    (a_drop : PySem.W.nsIn K mainGlobals "drop" = some (some (.ref f_drop)))
    (l_drop : K.lookup f_drop = some ⟨oc_drop, od_drop, .func (PySem.W.fnOf "drop" "drop" (defArgs s_drop) (defBody s_drop) (defScope s_drop) .none kV_drop dc_drop pm_drop an_drop cd_drop ct_drop), sl_drop⟩)
    (c_drop : PySem.W.codeIn K cd_drop "drop" = true)
    (k_drop : PySem.W.keepIn K (.ref f_drop) = true)
    (a_near_sign : PySem.W.nsIn K mainGlobals "near_sign" = some (some (.ref f_near_sign)))
    (l_near_sign : K.lookup f_near_sign = some ⟨oc_near_sign, od_near_sign, .func (PySem.W.fnOf "near_sign" "near_sign" (defArgs s_near_sign) (defBody s_near_sign) (defScope s_near_sign) .none kV_near_sign dc_near_sign pm_near_sign an_near_sign cd_near_sign ct_near_sign), sl_near_sign⟩)
    (c_near_sign : PySem.W.codeIn K cd_near_sign "near_sign" = true)
    (k_near_sign : PySem.W.keepIn K (.ref f_near_sign) = true)
    (a_near_count : PySem.W.nsIn K mainGlobals "near_count" = some (some (.ref f_near_count)))
    (l_near_count : K.lookup f_near_count = some ⟨oc_near_count, od_near_count, .func (PySem.W.fnOf "near_count" "near_count" (defArgs s_near_count) (defBody s_near_count) (defScope s_near_count) .none kV_near_count dc_near_count pm_near_count an_near_count cd_near_count ct_near_count), sl_near_count⟩)
    (c_near_count : PySem.W.codeIn K cd_near_count "near_count" = true)
    (k_near_count : PySem.W.keepIn K (.ref f_near_count) = true)
    (a_Ribbon_init : PySem.W.findIn K (.ref C_Ribbon) "__init__" = some (some (.ref f_Ribbon_init)))
    (i_Ribbon_init : PySem.W.isFn K (.ref f_Ribbon_init) = true)
    (l_Ribbon_init : K.lookup f_Ribbon_init = some ⟨oc_Ribbon_init, od_Ribbon_init, .func (PySem.W.fnOf "__init__" "Ribbon.__init__" (defArgs s_Ribbon_init) (defBody s_Ribbon_init) (defScope s_Ribbon_init) .none kV_Ribbon_init dc_Ribbon_init pm_Ribbon_init an_Ribbon_init cd_Ribbon_init ct_Ribbon_init), sl_Ribbon_init⟩)
    (c_Ribbon_init : PySem.W.codeIn K cd_Ribbon_init "Ribbon.__init__" = true)
    (k_Ribbon_init : PySem.W.keepIn K (.ref f_Ribbon_init) = true)
    (a_Ribbon_entry : PySem.W.findIn K (.ref C_Ribbon) "entry" = some (some (.ref f_Ribbon_entry)))
    (i_Ribbon_entry : PySem.W.isFn K (.ref f_Ribbon_entry) = true)
    (l_Ribbon_entry : K.lookup f_Ribbon_entry = some ⟨oc_Ribbon_entry, od_Ribbon_entry, .func (PySem.W.fnOf "entry" "Ribbon.entry" (defArgs s_Ribbon_entry) (defBody s_Ribbon_entry) (defScope s_Ribbon_entry) .none kV_Ribbon_entry dc_Ribbon_entry pm_Ribbon_entry an_Ribbon_entry cd_Ribbon_entry ct_Ribbon_entry), sl_Ribbon_entry⟩)
    (c_Ribbon_entry : PySem.W.codeIn K cd_Ribbon_entry "Ribbon.entry" = true)
    (k_Ribbon_entry : PySem.W.keepIn K (.ref f_Ribbon_entry) = true)
    (a_Ribbon_leap : PySem.W.findIn K (.ref C_Ribbon) "leap" = some (some (.ref f_Ribbon_leap)))
    (i_Ribbon_leap : PySem.W.isFn K (.ref f_Ribbon_leap) = true)
    (l_Ribbon_leap : K.lookup f_Ribbon_leap = some ⟨oc_Ribbon_leap, od_Ribbon_leap, .func (PySem.W.fnOf "leap" "Ribbon.leap" (defArgs s_Ribbon_leap) (defBody s_Ribbon_leap) (defScope s_Ribbon_leap) .none kV_Ribbon_leap dc_Ribbon_leap pm_Ribbon_leap an_Ribbon_leap cd_Ribbon_leap ct_Ribbon_leap), sl_Ribbon_leap⟩)
    (c_Ribbon_leap : PySem.W.codeIn K cd_Ribbon_leap "Ribbon.leap" = true)
    (k_Ribbon_leap : PySem.W.keepIn K (.ref f_Ribbon_leap) = true)
    (a_Ribbon_told : PySem.W.findIn K (.ref C_Ribbon) "told" = some (some (.ref f_Ribbon_told)))
    (i_Ribbon_told : PySem.W.isFn K (.ref f_Ribbon_told) = true)
    (l_Ribbon_told : K.lookup f_Ribbon_told = some ⟨oc_Ribbon_told, od_Ribbon_told, .func (PySem.W.fnOf "told" "Ribbon.told" (defArgs s_Ribbon_told) (defBody s_Ribbon_told) (defScope s_Ribbon_told) .none kV_Ribbon_told dc_Ribbon_told pm_Ribbon_told an_Ribbon_told cd_Ribbon_told ct_Ribbon_told), sl_Ribbon_told⟩)
    (c_Ribbon_told : PySem.W.codeIn K cd_Ribbon_told "Ribbon.told" = true)
    (k_Ribbon_told : PySem.W.keepIn K (.ref f_Ribbon_told) = true)
    (a_ask_for : PySem.W.nsIn K mainGlobals "ask_for" = some (some (.ref f_ask_for)))
    (l_ask_for : K.lookup f_ask_for = some ⟨oc_ask_for, od_ask_for, .func (PySem.W.fnOf "ask_for" "ask_for" (defArgs s_ask_for) (defBody s_ask_for) (defScope s_ask_for) .none kV_ask_for dc_ask_for pm_ask_for an_ask_for cd_ask_for ct_ask_for), sl_ask_for⟩)
    (c_ask_for : PySem.W.codeIn K cd_ask_for "ask_for" = true)
    (k_ask_for : PySem.W.keepIn K (.ref f_ask_for) = true)
    (a_fast_from : PySem.W.nsIn K mainGlobals "fast_from" = some (some (.ref f_fast_from)))
    (l_fast_from : K.lookup f_fast_from = some ⟨oc_fast_from, od_fast_from, .func (PySem.W.fnOf "fast_from" "fast_from" (defArgs s_fast_from) (defBody s_fast_from) (defScope s_fast_from) .none kV_fast_from dc_fast_from pm_fast_from an_fast_from cd_fast_from ct_fast_from), sl_fast_from⟩)
    (c_fast_from : PySem.W.codeIn K cd_fast_from "fast_from" = true)
    (k_fast_from : PySem.W.keepIn K (.ref f_fast_from) = true)
    (a_fast_after : PySem.W.nsIn K mainGlobals "fast_after" = some (some (.ref f_fast_after)))
    (l_fast_after : K.lookup f_fast_after = some ⟨oc_fast_after, od_fast_after, .func (PySem.W.fnOf "fast_after" "fast_after" (defArgs s_fast_after) (defBody s_fast_after) (defScope s_fast_after) (.ref qd_fast_after) kV_fast_after dc_fast_after pm_fast_after an_fast_after cd_fast_after ct_fast_after), sl_fast_after⟩)
    (ud_fast_after : K.lookup qd_fast_after = some ⟨.type "tuple", od_qdfast_after, .seq #[.int 5000 td_fast_after_0] n_qdfast_after, sl_qdfast_after⟩)
    (c_fast_after : PySem.W.codeIn K cd_fast_after "fast_after" = true)
    (k_fast_after : PySem.W.keepIn K (.ref f_fast_after) = true)
    (a__law_next : PySem.W.nsIn K mainGlobals "_law_next" = some (some (.ref f__law_next)))
    (l__law_next : K.lookup f__law_next = some ⟨oc__law_next, od__law_next, .func (PySem.W.fnOf "_law_next" "_law_next" (defArgs s__law_next) (defBody s__law_next) (defScope s__law_next) .none kV__law_next dc__law_next pm__law_next an__law_next cd__law_next ct__law_next), sl__law_next⟩)
    (c__law_next : PySem.W.codeIn K cd__law_next "_law_next" = true)
    (k__law_next : PySem.W.keepIn K (.ref f__law_next) = true)
    (a__law_same : PySem.W.nsIn K mainGlobals "_law_same" = some (some (.ref f__law_same)))
    (l__law_same : K.lookup f__law_same = some ⟨oc__law_same, od__law_same, .func (PySem.W.fnOf "_law_same" "_law_same" (defArgs s__law_same) (defBody s__law_same) (defScope s__law_same) .none kV__law_same dc__law_same pm__law_same an__law_same cd__law_same ct__law_same), sl__law_same⟩)
    (c__law_same : PySem.W.codeIn K cd__law_same "_law_same" = true)
    (k__law_same : PySem.W.keepIn K (.ref f__law_same) = true)
    (a__law_table : PySem.W.nsIn K mainGlobals "_law_table" = some (some (.ref f__law_table)))
    (l__law_table : K.lookup f__law_table = some ⟨oc__law_table, od__law_table, .func (PySem.W.fnOf "_law_table" "_law_table" (defArgs s__law_table) (defBody s__law_table) (defScope s__law_table) .none kV__law_table dc__law_table pm__law_table an__law_table cd__law_table ct__law_table), sl__law_table⟩)
    (c__law_table : PySem.W.codeIn K cd__law_table "_law_table" = true)
    (k__law_table : PySem.W.keepIn K (.ref f__law_table) = true)
    (a__law_shot : PySem.W.nsIn K mainGlobals "_law_shot" = some (some (.ref f__law_shot)))
    (l__law_shot : K.lookup f__law_shot = some ⟨oc__law_shot, od__law_shot, .func (PySem.W.fnOf "_law_shot" "_law_shot" (defArgs s__law_shot) (defBody s__law_shot) (defScope s__law_shot) .none kV__law_shot dc__law_shot pm__law_shot an__law_shot cd__law_shot ct__law_shot), sl__law_shot⟩)
    (c__law_shot : PySem.W.codeIn K cd__law_shot "_law_shot" = true)
    (k__law_shot : PySem.W.keepIn K (.ref f__law_shot) = true)
    (a__law_machine_by : PySem.W.nsIn K mainGlobals "_law_machine_by" = some (some (.ref f__law_machine_by)))
    (l__law_machine_by : K.lookup f__law_machine_by = some ⟨oc__law_machine_by, od__law_machine_by, .func (PySem.W.fnOf "_law_machine_by" "_law_machine_by" (defArgs s__law_machine_by) (defBody s__law_machine_by) (defScope s__law_machine_by) .none kV__law_machine_by dc__law_machine_by pm__law_machine_by an__law_machine_by cd__law_machine_by ct__law_machine_by), sl__law_machine_by⟩)
    (c__law_machine_by : PySem.W.codeIn K cd__law_machine_by "_law_machine_by" = true)
    (k__law_machine_by : PySem.W.keepIn K (.ref f__law_machine_by) = true)
    (a__law_seen : PySem.W.nsIn K mainGlobals "_law_seen" = some (some (.ref f__law_seen)))
    (l__law_seen : K.lookup f__law_seen = some ⟨oc__law_seen, od__law_seen, .func (PySem.W.fnOf "_law_seen" "_law_seen" (defArgs s__law_seen) (defBody s__law_seen) (defScope s__law_seen) .none kV__law_seen dc__law_seen pm__law_seen an__law_seen cd__law_seen ct__law_seen), sl__law_seen⟩)
    (c__law_seen : PySem.W.codeIn K cd__law_seen "_law_seen" = true)
    (k__law_seen : PySem.W.keepIn K (.ref f__law_seen) = true)
    (a__law_fast : PySem.W.nsIn K mainGlobals "_law_fast" = some (some (.ref f__law_fast)))
    (l__law_fast : K.lookup f__law_fast = some ⟨oc__law_fast, od__law_fast, .func (PySem.W.fnOf "_law_fast" "_law_fast" (defArgs s__law_fast) (defBody s__law_fast) (defScope s__law_fast) .none kV__law_fast dc__law_fast pm__law_fast an__law_fast cd__law_fast ct__law_fast), sl__law_fast⟩)
    (c__law_fast : PySem.W.codeIn K cd__law_fast "_law_fast" = true)
    (k__law_fast : PySem.W.keepIn K (.ref f__law_fast) = true)
    (a__law_far : PySem.W.nsIn K mainGlobals "_law_far" = some (some (.ref f__law_far)))
    (l__law_far : K.lookup f__law_far = some ⟨oc__law_far, od__law_far, .func (PySem.W.fnOf "_law_far" "_law_far" (defArgs s__law_far) (defBody s__law_far) (defScope s__law_far) .none kV__law_far dc__law_far pm__law_far an__law_far cd__law_far ct__law_far), sl__law_far⟩)
    (c__law_far : PySem.W.codeIn K cd__law_far "_law_far" = true)
    (k__law_far : PySem.W.keepIn K (.ref f__law_far) = true)
    (a__law_walk : PySem.W.nsIn K mainGlobals "_law_walk" = some (some (.ref f__law_walk)))
    (l__law_walk : K.lookup f__law_walk = some ⟨oc__law_walk, od__law_walk, .func (PySem.W.fnOf "_law_walk" "_law_walk" (defArgs s__law_walk) (defBody s__law_walk) (defScope s__law_walk) .none kV__law_walk dc__law_walk pm__law_walk an__law_walk cd__law_walk ct__law_walk), sl__law_walk⟩)
    (c__law_walk : PySem.W.codeIn K cd__law_walk "_law_walk" = true)
    (k__law_walk : PySem.W.keepIn K (.ref f__law_walk) = true)
    (a__law_great_end : PySem.W.nsIn K mainGlobals "_law_great_end" = some (some (.ref f__law_great_end)))
    (l__law_great_end : K.lookup f__law_great_end = some ⟨oc__law_great_end, od__law_great_end, .func (PySem.W.fnOf "_law_great_end" "_law_great_end" (defArgs s__law_great_end) (defBody s__law_great_end) (defScope s__law_great_end) .none kV__law_great_end dc__law_great_end pm__law_great_end an__law_great_end cd__law_great_end ct__law_great_end), sl__law_great_end⟩)
    (c__law_great_end : PySem.W.codeIn K cd__law_great_end "_law_great_end" = true)
    (k__law_great_end : PySem.W.keepIn K (.ref f__law_great_end) = true)
    (a__law_stretch : PySem.W.nsIn K mainGlobals "_law_stretch" = some (some (.ref f__law_stretch)))
    (l__law_stretch : K.lookup f__law_stretch = some ⟨oc__law_stretch, od__law_stretch, .func (PySem.W.fnOf "_law_stretch" "_law_stretch" (defArgs s__law_stretch) (defBody s__law_stretch) (defScope s__law_stretch) .none kV__law_stretch dc__law_stretch pm__law_stretch an__law_stretch cd__law_stretch ct__law_stretch), sl__law_stretch⟩)
    (c__law_stretch : PySem.W.codeIn K cd__law_stretch "_law_stretch" = true)
    (k__law_stretch : PySem.W.keepIn K (.ref f__law_stretch) = true)
    (a_law : PySem.W.nsIn K mainGlobals "law" = some (some (.ref f_law)))
    (l_law : K.lookup f_law = some ⟨oc_law, od_law, .func (PySem.W.fnOf "law" "law" (defArgs s_law) (defBody s_law) (defScope s_law) .none kV_law dc_law pm_law an_law cd_law ct_law), sl_law⟩)
    (c_law : PySem.W.codeIn K cd_law "law" = true)
    (k_law : PySem.W.keepIn K (.ref f_law) = true)
    (pg_Machine : PySem.W.plainGet K C_Machine Str.empty = true)
    (hd_Machine : PySem.W.hasDictIn K C_Machine = true)
    (po_Machine : PySem.W.plainOver K C_Machine = true)
    (sa_Machine : PySem.W.findIn K (.ref C_Machine) "__setattr__" = some (some (.builtin "object.__setattr__")))
    (mk_Machine : PySem.W.makesIn K C_Machine = true)
    (kc_Machine : PySem.W.keepIn K (.ref C_Machine) = true)
    (n_Machine_table : PySem.W.findIn K (.ref C_Machine) "table" = some none)
    (pg_Ribbon : PySem.W.plainGet K C_Ribbon Str.empty = true)
    (hd_Ribbon : PySem.W.hasDictIn K C_Ribbon = true)
    (po_Ribbon : PySem.W.plainOver K C_Ribbon = true)
    (sa_Ribbon : PySem.W.findIn K (.ref C_Ribbon) "__setattr__" = some (some (.builtin "object.__setattr__")))
    (mk_Ribbon : PySem.W.makesIn K C_Ribbon = true)
    (kc_Ribbon : PySem.W.keepIn K (.ref C_Ribbon) = true)
    (n_Ribbon_left : PySem.W.findIn K (.ref C_Ribbon) "left" = some none)
    (n_Ribbon_moved : PySem.W.findIn K (.ref C_Ribbon) "moved" = some none)
    (n_Ribbon_now : PySem.W.findIn K (.ref C_Ribbon) "now" = some none)
    (n_Ribbon_right : PySem.W.findIn K (.ref C_Ribbon) "right" = some none)
    (n_Ribbon_table : PySem.W.findIn K (.ref C_Ribbon) "table" = some none)
    (z_all : PySem.W.nsIn K mainGlobals "all" = some none)
    (z_bool : PySem.W.nsIn K mainGlobals "bool" = some none)
    (z_enumerate : PySem.W.nsIn K mainGlobals "enumerate" = some none)
    (z_int : PySem.W.nsIn K mainGlobals "int" = some none)
    (z_isinstance : PySem.W.nsIn K mainGlobals "isinstance" = some none)
    (z_len : PySem.W.nsIn K mainGlobals "len" = some none)
    (z_list : PySem.W.nsIn K mainGlobals "list" = some none)
    (z_min : PySem.W.nsIn K mainGlobals "min" = some none)
    (z_range : PySem.W.nsIn K mainGlobals "range" = some none)
    (z_reversed : PySem.W.nsIn K mainGlobals "reversed" = some none)
    (z_sorted : PySem.W.nsIn K mainGlobals "sorted" = some none)
    (z_str : PySem.W.nsIn K mainGlobals "str" = some none)
    (z_tuple : PySem.W.nsIn K mainGlobals "tuple" = some none)
    (z_zip : PySem.W.nsIn K mainGlobals "zip" = some none)
    : ∃ fd : FuncData, (∀ (s : Shared) (v : Value), BindsTo s fd ⟨[v], []⟩ [("_law_script", v)]) ∧ ∀ base : Heap, K.In base → base.Ns mainGlobals mg → FnOk l.prog w K mg base (L2.CX l.prog w) 8 fa fd ["_law_script"] (spV K [.F] [.F] (W_law cs0)) := by
  have e : f_law = fa := by simpa using (PySem.W.mg_of X G a_law).symm.trans hfa
  subst e
  let A : Cs := { C_Machine := C_Machine, C_Run := 0, C_NoMachine := 0, C_NoShot := 0, C_TapeError := 0, C_NoNames := 0, C_NoNumber := 0, C_NoStretches := 0, C_TooLong := C_TooLong, C_NoShape := 0, C_NoMove := 0, C_NoWidth := 0, C_NoText := 0, C_Ribbon := C_Ribbon }
  have F_fast_after : FunD K "fast_after" "fast_after" (defArgs s_fast_after) (defBody s_fast_after) (defScope s_fast_after) [.int 5000] [] f_fast_after (PySem.W.fnOf "fast_after" "fast_after" (defArgs s_fast_after) (defBody s_fast_after) (defScope s_fast_after) (.ref qd_fast_after) kV_fast_after dc_fast_after pm_fast_after an_fast_after cd_fast_after ct_fast_after) := ⟨⟨oc_fast_after, od_fast_after, .ref qd_fast_after, kV_fast_after, dc_fast_after, pm_fast_after, an_fast_after, cd_fast_after, ct_fast_after, sl_fast_after, rfl, l_fast_after, c_fast_after, .inr ⟨by simp, qd_fast_after, _, [.int 5000 td_fast_after_0], n_qdfast_after, rfl, ud_fast_after, rfl, (.cons ⟨_, rfl⟩ .nil)⟩, .inl rfl⟩, k_fast_after⟩
  obtain ⟨e2_fast_after, v2_fast_after, b2_fast_after⟩ := F_fast_after.binds1 (ps := ["machine", "steps", "most"]) 2 0 (by simp) rfl (fun T kV doc pm an cdv ct us its hu hi => match us, its, hu, hi with | [_, _], [_], _, _ => ⟨_, rfl, rfl⟩)
  obtain ⟨e3_fast_after, v3_fast_after, b3_fast_after⟩ := F_fast_after.binds1 (ps := ["machine", "steps", "most"]) 3 1 (by simp) rfl (fun T kV doc pm an cdv ct us its hu hi => match us, its, hu, hi with | [_, _, _], [_], _, _ => ⟨_, rfl, rfl⟩)
  have b_fast_after : Binds K (PySem.W.fnOf "fast_after" "fast_after" (defArgs s_fast_after) (defBody s_fast_after) (defScope s_fast_after) (.ref qd_fast_after) kV_fast_after dc_fast_after pm_fast_after an_fast_after cd_fast_after ct_fast_after) ["machine", "steps", "most"] [] := by cases v3_fast_after; exact b3_fast_after
  let D : Ad := { A := A, a_is_number := f_is_number, d_is_number := PySem.W.fnOf "is_number" "is_number" (defArgs s_is_number) (defBody s_is_number) (defScope s_is_number) .none kV_is_number dc_is_number pm_is_number an_is_number cd_is_number ct_is_number, a_entry_kept := f_entry_kept, d_entry_kept := PySem.W.fnOf "entry_kept" "entry_kept" (defArgs s_entry_kept) (defBody s_entry_kept) (defScope s_entry_kept) .none kV_entry_kept dc_entry_kept pm_entry_kept an_entry_kept cd_entry_kept ct_entry_kept, a_Machine_init := f_Machine_init, d_Machine_init := PySem.W.fnOf "__init__" "Machine.__init__" (defArgs s_Machine_init) (defBody s_Machine_init) (defScope s_Machine_init) .none kV_Machine_init dc_Machine_init pm_Machine_init an_Machine_init cd_Machine_init ct_Machine_init, a_states_of := f_states_of, d_states_of := PySem.W.fnOf "states_of" "states_of" (defArgs s_states_of) (defBody s_states_of) (defScope s_states_of) .none kV_states_of dc_states_of pm_states_of an_states_of cd_states_of ct_states_of, a_signs_of := f_signs_of, d_signs_of := PySem.W.fnOf "signs_of" "signs_of" (defArgs s_signs_of) (defBody s_signs_of) (defScope s_signs_of) .none kV_signs_of dc_signs_of pm_signs_of an_signs_of cd_signs_of ct_signs_of, a_ask_row := f_ask_row, d_ask_row := PySem.W.fnOf "ask_row" "ask_row" (defArgs s_ask_row) (defBody s_ask_row) (defScope s_ask_row) .none kV_ask_row dc_ask_row pm_ask_row an_ask_row cd_ask_row ct_ask_row, a_ask_stretches := f_ask_stretches, d_ask_stretches := PySem.W.fnOf "ask_stretches" "ask_stretches" (defArgs s_ask_stretches) (defBody s_ask_stretches) (defScope s_ask_stretches) .none kV_ask_stretches dc_ask_stretches pm_ask_stretches an_ask_stretches cd_ask_stretches ct_ask_stretches, a_marks_along := f_marks_along, d_marks_along := PySem.W.fnOf "marks_along" "marks_along" (defArgs s_marks_along) (defBody s_marks_along) (defScope s_marks_along) .none kV_marks_along dc_marks_along pm_marks_along an_marks_along cd_marks_along ct_marks_along, a_shot_of := f_shot_of, d_shot_of := PySem.W.fnOf "shot_of" "shot_of" (defArgs s_shot_of) (defBody s_shot_of) (defScope s_shot_of) .none kV_shot_of dc_shot_of pm_shot_of an_shot_of cd_shot_of ct_shot_of, a_put := f_put, d_put := PySem.W.fnOf "put" "put" (defArgs s_put) (defBody s_put) (defScope s_put) .none kV_put dc_put pm_put an_put cd_put ct_put, a_drop := f_drop, d_drop := PySem.W.fnOf "drop" "drop" (defArgs s_drop) (defBody s_drop) (defScope s_drop) .none kV_drop dc_drop pm_drop an_drop cd_drop ct_drop, a_near_sign := f_near_sign, d_near_sign := PySem.W.fnOf "near_sign" "near_sign" (defArgs s_near_sign) (defBody s_near_sign) (defScope s_near_sign) .none kV_near_sign dc_near_sign pm_near_sign an_near_sign cd_near_sign ct_near_sign, a_near_count := f_near_count, d_near_count := PySem.W.fnOf "near_count" "near_count" (defArgs s_near_count) (defBody s_near_count) (defScope s_near_count) .none kV_near_count dc_near_count pm_near_count an_near_count cd_near_count ct_near_count, a_Ribbon_init := f_Ribbon_init, d_Ribbon_init := PySem.W.fnOf "__init__" "Ribbon.__init__" (defArgs s_Ribbon_init) (defBody s_Ribbon_init) (defScope s_Ribbon_init) .none kV_Ribbon_init dc_Ribbon_init pm_Ribbon_init an_Ribbon_init cd_Ribbon_init ct_Ribbon_init, a_Ribbon_entry := f_Ribbon_entry, d_Ribbon_entry := PySem.W.fnOf "entry" "Ribbon.entry" (defArgs s_Ribbon_entry) (defBody s_Ribbon_entry) (defScope s_Ribbon_entry) .none kV_Ribbon_entry dc_Ribbon_entry pm_Ribbon_entry an_Ribbon_entry cd_Ribbon_entry ct_Ribbon_entry, a_Ribbon_leap := f_Ribbon_leap, d_Ribbon_leap := PySem.W.fnOf "leap" "Ribbon.leap" (defArgs s_Ribbon_leap) (defBody s_Ribbon_leap) (defScope s_Ribbon_leap) .none kV_Ribbon_leap dc_Ribbon_leap pm_Ribbon_leap an_Ribbon_leap cd_Ribbon_leap ct_Ribbon_leap, a_Ribbon_told := f_Ribbon_told, d_Ribbon_told := PySem.W.fnOf "told" "Ribbon.told" (defArgs s_Ribbon_told) (defBody s_Ribbon_told) (defScope s_Ribbon_told) .none kV_Ribbon_told dc_Ribbon_told pm_Ribbon_told an_Ribbon_told cd_Ribbon_told ct_Ribbon_told, a_ask_for := f_ask_for, d_ask_for := PySem.W.fnOf "ask_for" "ask_for" (defArgs s_ask_for) (defBody s_ask_for) (defScope s_ask_for) .none kV_ask_for dc_ask_for pm_ask_for an_ask_for cd_ask_for ct_ask_for, a_fast_from := f_fast_from, d_fast_from := PySem.W.fnOf "fast_from" "fast_from" (defArgs s_fast_from) (defBody s_fast_from) (defScope s_fast_from) .none kV_fast_from dc_fast_from pm_fast_from an_fast_from cd_fast_from ct_fast_from, a_fast_after := f_fast_after, d_fast_after := PySem.W.fnOf "fast_after" "fast_after" (defArgs s_fast_after) (defBody s_fast_after) (defScope s_fast_after) (.ref qd_fast_after) kV_fast_after dc_fast_after pm_fast_after an_fast_after cd_fast_after ct_fast_after, a__law_next := f__law_next, d__law_next := PySem.W.fnOf "_law_next" "_law_next" (defArgs s__law_next) (defBody s__law_next) (defScope s__law_next) .none kV__law_next dc__law_next pm__law_next an__law_next cd__law_next ct__law_next, a__law_same := f__law_same, d__law_same := PySem.W.fnOf "_law_same" "_law_same" (defArgs s__law_same) (defBody s__law_same) (defScope s__law_same) .none kV__law_same dc__law_same pm__law_same an__law_same cd__law_same ct__law_same, a__law_table := f__law_table, d__law_table := PySem.W.fnOf "_law_table" "_law_table" (defArgs s__law_table) (defBody s__law_table) (defScope s__law_table) .none kV__law_table dc__law_table pm__law_table an__law_table cd__law_table ct__law_table, a__law_shot := f__law_shot, d__law_shot := PySem.W.fnOf "_law_shot" "_law_shot" (defArgs s__law_shot) (defBody s__law_shot) (defScope s__law_shot) .none kV__law_shot dc__law_shot pm__law_shot an__law_shot cd__law_shot ct__law_shot, a__law_machine_by := f__law_machine_by, d__law_machine_by := PySem.W.fnOf "_law_machine_by" "_law_machine_by" (defArgs s__law_machine_by) (defBody s__law_machine_by) (defScope s__law_machine_by) .none kV__law_machine_by dc__law_machine_by pm__law_machine_by an__law_machine_by cd__law_machine_by ct__law_machine_by, a__law_seen := f__law_seen, d__law_seen := PySem.W.fnOf "_law_seen" "_law_seen" (defArgs s__law_seen) (defBody s__law_seen) (defScope s__law_seen) .none kV__law_seen dc__law_seen pm__law_seen an__law_seen cd__law_seen ct__law_seen, a__law_fast := f__law_fast, d__law_fast := PySem.W.fnOf "_law_fast" "_law_fast" (defArgs s__law_fast) (defBody s__law_fast) (defScope s__law_fast) .none kV__law_fast dc__law_fast pm__law_fast an__law_fast cd__law_fast ct__law_fast, a__law_far := f__law_far, d__law_far := PySem.W.fnOf "_law_far" "_law_far" (defArgs s__law_far) (defBody s__law_far) (defScope s__law_far) .none kV__law_far dc__law_far pm__law_far an__law_far cd__law_far ct__law_far, a__law_walk := f__law_walk, d__law_walk := PySem.W.fnOf "_law_walk" "_law_walk" (defArgs s__law_walk) (defBody s__law_walk) (defScope s__law_walk) .none kV__law_walk dc__law_walk pm__law_walk an__law_walk cd__law_walk ct__law_walk, a__law_great_end := f__law_great_end, d__law_great_end := PySem.W.fnOf "_law_great_end" "_law_great_end" (defArgs s__law_great_end) (defBody s__law_great_end) (defScope s__law_great_end) .none kV__law_great_end dc__law_great_end pm__law_great_end an__law_great_end cd__law_great_end ct__law_great_end, a__law_stretch := f__law_stretch, d__law_stretch := PySem.W.fnOf "_law_stretch" "_law_stretch" (defArgs s__law_stretch) (defBody s__law_stretch) (defScope s__law_stretch) .none kV__law_stretch dc__law_stretch pm__law_stretch an__law_stretch cd__law_stretch ct__law_stretch, a_law := f_law, d_law := PySem.W.fnOf "law" "law" (defArgs s_law) (defBody s_law) (defScope s_law) .none kV_law dc_law pm_law an_law cd_law ct_law, e2_fast_after := e2_fast_after }
  have F_is_number := fun_mk (st := s_is_number) l_is_number c_is_number k_is_number
  have b_is_number := F_is_number.binds (ps := ["thing", "many"]) fun _ _ _ _ _ _ us hl => match us, hl with | [_, _], _ => rfl
  have F_entry_kept := fun_mk (st := s_entry_kept) l_entry_kept c_entry_kept k_entry_kept
  have b_entry_kept := F_entry_kept.binds (ps := ["entry", "states", "signs"]) fun _ _ _ _ _ _ us hl => match us, hl with | [_, _, _], _ => rfl
  have F_Machine_init := fun_mk (st := s_Machine_init) l_Machine_init c_Machine_init k_Machine_init
  have b_Machine_init := F_Machine_init.binds (ps := ["self", "table"]) fun _ _ _ _ _ _ us hl => match us, hl with | [_, _], _ => rfl
  have F_states_of := fun_mk (st := s_states_of) l_states_of c_states_of k_states_of
  have b_states_of := F_states_of.binds (ps := ["machine"]) fun _ _ _ _ _ _ us hl => match us, hl with | [_], _ => rfl
  have F_signs_of := fun_mk (st := s_signs_of) l_signs_of c_signs_of k_signs_of
  have b_signs_of := F_signs_of.binds (ps := ["machine"]) fun _ _ _ _ _ _ us hl => match us, hl with | [_], _ => rfl
  have F_ask_row := fun_mk (st := s_ask_row) l_ask_row c_ask_row k_ask_row
  have b_ask_row := F_ask_row.binds (ps := ["row"]) fun _ _ _ _ _ _ us hl => match us, hl with | [_], _ => rfl
  have F_ask_stretches := fun_mk (st := s_ask_stretches) l_ask_stretches c_ask_stretches k_ask_stretches
  have b_ask_stretches := F_ask_stretches.binds (ps := ["stretches"]) fun _ _ _ _ _ _ us hl => match us, hl with | [_], _ => rfl
  have F_marks_along := fun_mk (st := s_marks_along) l_marks_along c_marks_along k_marks_along
  have b_marks_along := F_marks_along.binds (ps := ["row", "start", "way"]) fun _ _ _ _ _ _ us hl => match us, hl with | [_, _, _], _ => rfl
  have F_shot_of := fun_mk (st := s_shot_of) l_shot_of c_shot_of k_shot_of
  have b_shot_of := F_shot_of.binds (ps := ["stretches", "place"]) fun _ _ _ _ _ _ us hl => match us, hl with | [_, _], _ => rfl
  have F_put := fun_mk (st := s_put) l_put c_put k_put
  have b_put := F_put.binds (ps := ["row", "sign", "count"]) fun _ _ _ _ _ _ us hl => match us, hl with | [_, _, _], _ => rfl
  have F_drop := fun_mk (st := s_drop) l_drop c_drop k_drop
  have b_drop := F_drop.binds (ps := ["row", "count"]) fun _ _ _ _ _ _ us hl => match us, hl with | [_, _], _ => rfl
  have F_near_sign := fun_mk (st := s_near_sign) l_near_sign c_near_sign k_near_sign
  have b_near_sign := F_near_sign.binds (ps := ["row"]) fun _ _ _ _ _ _ us hl => match us, hl with | [_], _ => rfl
  have F_near_count := fun_mk (st := s_near_count) l_near_count c_near_count k_near_count
  have b_near_count := F_near_count.binds (ps := ["row", "sign", "wanted"]) fun _ _ _ _ _ _ us hl => match us, hl with | [_, _, _], _ => rfl
  have F_Ribbon_init := fun_mk (st := s_Ribbon_init) l_Ribbon_init c_Ribbon_init k_Ribbon_init
  have b_Ribbon_init := F_Ribbon_init.binds (ps := ["self", "machine", "stretches"]) fun _ _ _ _ _ _ us hl => match us, hl with | [_, _, _], _ => rfl
  have F_Ribbon_entry := fun_mk (st := s_Ribbon_entry) l_Ribbon_entry c_Ribbon_entry k_Ribbon_entry
  have b_Ribbon_entry := F_Ribbon_entry.binds (ps := ["self"]) fun _ _ _ _ _ _ us hl => match us, hl with | [_], _ => rfl
  have F_Ribbon_leap := fun_mk (st := s_Ribbon_leap) l_Ribbon_leap c_Ribbon_leap k_Ribbon_leap
  have b_Ribbon_leap := F_Ribbon_leap.binds (ps := ["self", "wanted"]) fun _ _ _ _ _ _ us hl => match us, hl with | [_, _], _ => rfl
  have F_Ribbon_told := fun_mk (st := s_Ribbon_told) l_Ribbon_told c_Ribbon_told k_Ribbon_told
  have b_Ribbon_told := F_Ribbon_told.binds (ps := ["self"]) fun _ _ _ _ _ _ us hl => match us, hl with | [_], _ => rfl
  have F_ask_for := fun_mk (st := s_ask_for) l_ask_for c_ask_for k_ask_for
  have b_ask_for := F_ask_for.binds (ps := ["machine", "stretches"]) fun _ _ _ _ _ _ us hl => match us, hl with | [_, _], _ => rfl
  have F_fast_from := fun_mk (st := s_fast_from) l_fast_from c_fast_from k_fast_from
  have b_fast_from := F_fast_from.binds (ps := ["machine", "stretches", "steps", "most"]) fun _ _ _ _ _ _ us hl => match us, hl with | [_, _, _, _], _ => rfl
  have F__law_next := fun_mk (st := s__law_next) l__law_next c__law_next k__law_next
  have b__law_next := F__law_next.binds (ps := ["_law_script", "_law_at"]) fun _ _ _ _ _ _ us hl => match us, hl with | [_, _], _ => rfl
  have F__law_same := fun_mk (st := s__law_same) l__law_same c__law_same k__law_same
  have b__law_same := F__law_same.binds (ps := ["_law_found", "_law_due"]) fun _ _ _ _ _ _ us hl => match us, hl with | [_, _], _ => rfl
  have F__law_table := fun_mk (st := s__law_table) l__law_table c__law_table k__law_table
  have b__law_table := F__law_table.binds (ps := ["_law_script", "_law_at", "_law_states", "_law_signs"]) fun _ _ _ _ _ _ us hl => match us, hl with | [_, _, _, _], _ => rfl
  have F__law_shot := fun_mk (st := s__law_shot) l__law_shot c__law_shot k__law_shot
  have b__law_shot := F__law_shot.binds (ps := ["_law_shot_here"]) fun _ _ _ _ _ _ us hl => match us, hl with | [_], _ => rfl
  have F__law_machine_by := fun_mk (st := s__law_machine_by) l__law_machine_by c__law_machine_by k__law_machine_by
  have b__law_machine_by := F__law_machine_by.binds (ps := ["_law_script", "_law_at"]) fun _ _ _ _ _ _ us hl => match us, hl with | [_, _], _ => rfl
  have F__law_seen := fun_mk (st := s__law_seen) l__law_seen c__law_seen k__law_seen
  have b__law_seen := F__law_seen.binds (ps := ["_law_shot_here"]) fun _ _ _ _ _ _ us hl => match us, hl with | [_], _ => rfl
  have F__law_fast := fun_mk (st := s__law_fast) l__law_fast c__law_fast k__law_fast
  have b__law_fast := F__law_fast.binds (ps := ["_law_machine", "_law_stretches", "_law_steps", "_law_most"]) fun _ _ _ _ _ _ us hl => match us, hl with | [_, _, _, _], _ => rfl
  have F__law_far := fun_mk (st := s__law_far) l__law_far c__law_far k__law_far
  have b__law_far := F__law_far.binds (ps := ["_law_script", "_law_at"]) fun _ _ _ _ _ _ us hl => match us, hl with | [_, _], _ => rfl
  have F__law_walk := fun_mk (st := s__law_walk) l__law_walk c__law_walk k__law_walk
  have b__law_walk := F__law_walk.binds (ps := ["_law_table_here", "_law_shot_here", "_law_steps"]) fun _ _ _ _ _ _ us hl => match us, hl with | [_, _, _], _ => rfl
  have F__law_great_end := fun_mk (st := s__law_great_end) l__law_great_end c__law_great_end k__law_great_end
  have b__law_great_end := F__law_great_end.binds (ps := ["_law_machine", "_law_stretches", "_law_far_here", "_law_cut"]) fun _ _ _ _ _ _ us hl => match us, hl with | [_, _, _, _], _ => rfl
  have F__law_stretch := fun_mk (st := s__law_stretch) l__law_stretch c__law_stretch k__law_stretch
  have b__law_stretch := F__law_stretch.binds (ps := ["_law_machine", "_law_table_here", "_law_shot_here", "_law_stretches", "_law_steps"]) fun _ _ _ _ _ _ us hl => match us, hl with | [_, _, _, _, _], _ => rfl
  have F_law := fun_mk (st := s_law) l_law c_law k_law
  have b_law := F_law.binds (ps := ["_law_script"]) fun _ _ _ _ _ _ us hl => match us, hl with | [_], _ => rfl
  have T : Txt K mg D := {
    m_TooLong := PySem.W.mg_of X G aC_TooLong,
    rs_TooLong := ⟨r1_TooLong, r2_TooLong, r3_TooLong, r4_TooLong⟩,
    xm_TooLong_TooLong := VL.xm_of xb_TooLong ic_TooLong it_TooLong sb_TooLong_TooLong,
    n_all := PySem.W.mg_none_of X G z_all,
    n_bool := PySem.W.mg_none_of X G z_bool,
    n_enumerate := PySem.W.mg_none_of X G z_enumerate,
    n_int := PySem.W.mg_none_of X G z_int,
    n_isinstance := PySem.W.mg_none_of X G z_isinstance,
    n_len := PySem.W.mg_none_of X G z_len,
    n_list := PySem.W.mg_none_of X G z_list,
    n_min := PySem.W.mg_none_of X G z_min,
    n_range := PySem.W.mg_none_of X G z_range,
    n_reversed := PySem.W.mg_none_of X G z_reversed,
    n_sorted := PySem.W.mg_none_of X G z_sorted,
    n_str := PySem.W.mg_none_of X G z_str,
    n_tuple := PySem.W.mg_none_of X G z_tuple,
    n_zip := PySem.W.mg_none_of X G z_zip,
    F_is_number := F_is_number, b_is_number := b_is_number,
    m_is_number := PySem.W.mg_of X G a_is_number,
    F_entry_kept := F_entry_kept, b_entry_kept := b_entry_kept,
    m_entry_kept := PySem.W.mg_of X G a_entry_kept,
    F_Machine_init := F_Machine_init, b_Machine_init := b_Machine_init,
    F_states_of := F_states_of, b_states_of := b_states_of,
    m_states_of := PySem.W.mg_of X G a_states_of,
    F_signs_of := F_signs_of, b_signs_of := b_signs_of,
    m_signs_of := PySem.W.mg_of X G a_signs_of,
    F_ask_row := F_ask_row, b_ask_row := b_ask_row,
    m_ask_row := PySem.W.mg_of X G a_ask_row,
    F_ask_stretches := F_ask_stretches, b_ask_stretches := b_ask_stretches,
    m_ask_stretches := PySem.W.mg_of X G a_ask_stretches,
    F_marks_along := F_marks_along, b_marks_along := b_marks_along,
    m_marks_along := PySem.W.mg_of X G a_marks_along,
    F_shot_of := F_shot_of, b_shot_of := b_shot_of,
    m_shot_of := PySem.W.mg_of X G a_shot_of,
    F_put := F_put, b_put := b_put,
    m_put := PySem.W.mg_of X G a_put,
    F_drop := F_drop, b_drop := b_drop,
    m_drop := PySem.W.mg_of X G a_drop,
    F_near_sign := F_near_sign, b_near_sign := b_near_sign,
    m_near_sign := PySem.W.mg_of X G a_near_sign,
    F_near_count := F_near_count, b_near_count := b_near_count,
    m_near_count := PySem.W.mg_of X G a_near_count,
    F_Ribbon_init := F_Ribbon_init, b_Ribbon_init := b_Ribbon_init,
    F_Ribbon_entry := F_Ribbon_entry, b_Ribbon_entry := b_Ribbon_entry,
    me_Ribbon_entry := ⟨a_Ribbon_entry, i_Ribbon_entry, k_Ribbon_entry⟩,
    F_Ribbon_leap := F_Ribbon_leap, b_Ribbon_leap := b_Ribbon_leap,
    me_Ribbon_leap := ⟨a_Ribbon_leap, i_Ribbon_leap, k_Ribbon_leap⟩,
    F_Ribbon_told := F_Ribbon_told, b_Ribbon_told := b_Ribbon_told,
    me_Ribbon_told := ⟨a_Ribbon_told, i_Ribbon_told, k_Ribbon_told⟩,
    F_ask_for := F_ask_for, b_ask_for := b_ask_for,
    m_ask_for := PySem.W.mg_of X G a_ask_for,
    F_fast_from := F_fast_from, b_fast_from := b_fast_from,
    m_fast_from := PySem.W.mg_of X G a_fast_from,
    F_fast_after := F_fast_after, b_fast_after := b_fast_after,
    v2_fast_after := v2_fast_after, b2_fast_after := b2_fast_after,
    m_fast_after := PySem.W.mg_of X G a_fast_after,
    F__law_next := F__law_next, b__law_next := b__law_next,
    m__law_next := PySem.W.mg_of X G a__law_next,
    F__law_same := F__law_same, b__law_same := b__law_same,
    m__law_same := PySem.W.mg_of X G a__law_same,
    F__law_table := F__law_table, b__law_table := b__law_table,
    m__law_table := PySem.W.mg_of X G a__law_table,
    F__law_shot := F__law_shot, b__law_shot := b__law_shot,
    m__law_shot := PySem.W.mg_of X G a__law_shot,
    F__law_machine_by := F__law_machine_by, b__law_machine_by := b__law_machine_by,
    m__law_machine_by := PySem.W.mg_of X G a__law_machine_by,
    F__law_seen := F__law_seen, b__law_seen := b__law_seen,
    m__law_seen := PySem.W.mg_of X G a__law_seen,
    F__law_fast := F__law_fast, b__law_fast := b__law_fast,
    m__law_fast := PySem.W.mg_of X G a__law_fast,
    F__law_far := F__law_far, b__law_far := b__law_far,
    m__law_far := PySem.W.mg_of X G a__law_far,
    F__law_walk := F__law_walk, b__law_walk := b__law_walk,
    m__law_walk := PySem.W.mg_of X G a__law_walk,
    F__law_great_end := F__law_great_end, b__law_great_end := b__law_great_end,
    m__law_great_end := PySem.W.mg_of X G a__law_great_end,
    F__law_stretch := F__law_stretch, b__law_stretch := b__law_stretch,
    m__law_stretch := PySem.W.mg_of X G a__law_stretch,
    F_law := F_law, b_law := b_law,
    m_law := PySem.W.mg_of X G a_law,
    m_Machine := PySem.W.mg_of X G aC_Machine, cl_Machine := ⟨pg_Machine, hd_Machine, po_Machine, sa_Machine⟩,
    mk_Machine := ⟨mk_Machine, a_Machine_init, i_Machine_init, kc_Machine⟩,
    na_Machine_table := n_Machine_table,
    m_Ribbon := PySem.W.mg_of X G aC_Ribbon, cl_Ribbon := ⟨pg_Ribbon, hd_Ribbon, po_Ribbon, sa_Ribbon⟩,
    mk_Ribbon := ⟨mk_Ribbon, a_Ribbon_init, i_Ribbon_init, kc_Ribbon⟩,
    na_Ribbon_left := n_Ribbon_left,
    na_Ribbon_moved := n_Ribbon_moved,
    na_Ribbon_now := n_Ribbon_now,
    na_Ribbon_right := n_Ribbon_right,
    na_Ribbon_table := n_Ribbon_table }
  exact ⟨_, fun s v => .of_eq rfl, fun base _ _ => ok_law T⟩
theorem walk {l : PySem.W.OpenLaw} {q : Program} {loose : List Str} {XP : (Str → Option Value) → Heap → Prop} {YP : World → Heap → Prop} {d : DefRec} {K : Params → PySem.W.Frag} (hn : l.most = some 63) (hdf : d.params.defaults = [])
    (hY : ∀ (w : World) (h : Heap), YP w h → (K w.params).In h)
    (F : ∀ (w : World) (mg : Str → Option Value) (fa : Addr) (h : Heap), (K w.params).In h → h.Ns mainGlobals mg → mg d.name = some (.ref fa) → ∃ fd : FuncData, (∀ (s : Shared) (u : Value), BindsTo s fd ⟨[u], []⟩ [("_law_script", u)]) ∧ ∀ base : Heap, (K w.params).In base → base.Ns mainGlobals mg → FnOk l.prog w (K w.params) mg base (L2.CX l.prog w) 8 fa fd ["_law_script"] (spV (K w.params) [.F] [.F] (W_law cs0))) :
    PySem.W.WalkO q loose XP YP l.row.toRowW d [] (fun f vs => PySem.call f vs) :=
  L2.walk_of (n := 63) (k := 8) (x := "_law_script") (CX := fun w => L2.CX l.prog w) (sp := fun w => spV (K w.params) [.F] [.F] (W_law cs0)) hn (by decide) hdf ⟨rfl, by decide, by decide⟩ hY F (fun w H a ns hl _ hS => law_start hS (fun P hP => ⟨ns, rfl, hl, hP⟩)) fun _ _ _ _ _ z => by
    obtain ⟨_, _, _, _, _, _, _, _, _, _, _, _, z⟩ := z
    exact z
end My
open PySem PySem.W PyProof.Rows
set_option maxRecDepth 100000 in
set_option maxHeartbeats 0 in
theorem PySem.Challenge.cw_tapeproof_k91_whole_fast_holds : PySem.Challenge.rw_tapeproof_k91_whole_fast.Holds := by
  w_on; o_law; k_head; (case hw => w_witness2)
  k_fill
  refine My.walk (l := PySem.Challenge.rw_tapeproof_k91_whole_fast) rfl rfl (fun w h Y => PySem.W.kIn_of Y) ?F
  case F =>
    intro w mg fa h KX G hmg
    refine' My.all_mk KX G hmg ?aC_TooLong ?r1_TooLong ?r2_TooLong ?r3_TooLong ?r4_TooLong ?ic_TooLong ?it_TooLong ?is_TooLong ?sb_TooLong_TooLong ?xb_TooLong ?aC_Machine ?aC_Ribbon ?a_is_number ?l_is_number ?c_is_number ?k_is_number ?a_entry_kept ?l_entry_kept ?c_entry_kept ?k_entry_kept ?a_Machine_init ?i_Machine_init ?l_Machine_init ?c_Machine_init ?k_Machine_init ?a_states_of ?l_states_of ?c_states_of ?k_states_of ?a_signs_of ?l_signs_of ?c_signs_of ?k_signs_of ?a_ask_row ?l_ask_row ?c_ask_row ?k_ask_row ?a_ask_stretches ?l_ask_stretches ?c_ask_stretches ?k_ask_stretches ?a_marks_along ?l_marks_along ?c_marks_along ?k_marks_along ?a_shot_of ?l_shot_of ?c_shot_of ?k_shot_of ?a_put ?l_put ?c_put ?k_put ?a_drop ?l_drop ?c_drop ?k_drop ?a_near_sign ?l_near_sign ?c_near_sign ?k_near_sign ?a_near_count ?l_near_count ?c_near_count ?k_near_count ?a_Ribbon_init ?i_Ribbon_init ?l_Ribbon_init ?c_Ribbon_init ?k_Ribbon_init ?a_Ribbon_entry ?i_Ribbon_entry ?l_Ribbon_entry ?c_Ribbon_entry ?k_Ribbon_entry ?a_Ribbon_leap ?i_Ribbon_leap ?l_Ribbon_leap ?c_Ribbon_leap ?k_Ribbon_leap ?a_Ribbon_told ?i_Ribbon_told ?l_Ribbon_told ?c_Ribbon_told ?k_Ribbon_told ?a_ask_for ?l_ask_for ?c_ask_for ?k_ask_for ?a_fast_from ?l_fast_from ?c_fast_from ?k_fast_from ?a_fast_after ?l_fast_after ?ud_fast_after ?c_fast_after ?k_fast_after ?a__law_next ?l__law_next ?c__law_next ?k__law_next ?a__law_same ?l__law_same ?c__law_same ?k__law_same ?a__law_table ?l__law_table ?c__law_table ?k__law_table ?a__law_shot ?l__law_shot ?c__law_shot ?k__law_shot ?a__law_machine_by ?l__law_machine_by ?c__law_machine_by ?k__law_machine_by ?a__law_seen ?l__law_seen ?c__law_seen ?k__law_seen ?a__law_fast ?l__law_fast ?c__law_fast ?k__law_fast ?a__law_far ?l__law_far ?c__law_far ?k__law_far ?a__law_walk ?l__law_walk ?c__law_walk ?k__law_walk ?a__law_great_end ?l__law_great_end ?c__law_great_end ?k__law_great_end ?a__law_stretch ?l__law_stretch ?c__law_stretch ?k__law_stretch ?a_law ?l_law ?c_law ?k_law ?pg_Machine ?hd_Machine ?po_Machine ?sa_Machine ?mk_Machine ?kc_Machine ?n_Machine_table ?pg_Ribbon ?hd_Ribbon ?po_Ribbon ?sa_Ribbon ?mk_Ribbon ?kc_Ribbon ?n_Ribbon_left ?n_Ribbon_moved ?n_Ribbon_now ?n_Ribbon_right ?n_Ribbon_table ?z_all ?z_bool ?z_enumerate ?z_int ?z_isinstance ?z_len ?z_list ?z_min ?z_range ?z_reversed ?z_sorted ?z_str ?z_tuple ?z_zip
    (case aC_TooLong => k_is)
    (case r1_TooLong => k_exc)
    (case r2_TooLong => k_is)
    (case r3_TooLong => k_is)
    (case r4_TooLong => k_is)
    (case ic_TooLong => k_is)
    (case it_TooLong => k_is)
    (case is_TooLong => k_is)
    (case sb_TooLong_TooLong => k_is)
    (case xb_TooLong => k_is)
    (case aC_Machine => k_is)
    (case aC_Ribbon => k_is)
    (case a_is_number => k_is)
    (case l_is_number => k_is)
    (case c_is_number => k_is)
    (case k_is_number => k_is)
    (case a_entry_kept => k_is)
    (case l_entry_kept => k_is)
    (case c_entry_kept => k_is)
    (case k_entry_kept => k_is)
    (case a_Machine_init => k_is)
    (case i_Machine_init => k_is)
    (case l_Machine_init => k_is)
    (case c_Machine_init => k_is)
    (case k_Machine_init => k_is)
    (case a_states_of => k_is)
    (case l_states_of => k_is)
    (case c_states_of => k_is)
    (case k_states_of => k_is)
    (case a_signs_of => k_is)
    (case l_signs_of => k_is)
    (case c_signs_of => k_is)
    (case k_signs_of => k_is)
    (case a_ask_row => k_is)
    (case l_ask_row => k_is)
    (case c_ask_row => k_is)
    (case k_ask_row => k_is)
    (case a_ask_stretches => k_is)
    (case l_ask_stretches => k_is)
    (case c_ask_stretches => k_is)
    (case k_ask_stretches => k_is)
    (case a_marks_along => k_is)
    (case l_marks_along => k_is)
    (case c_marks_along => k_is)
    (case k_marks_along => k_is)
    (case a_shot_of => k_is)
    (case l_shot_of => k_is)
    (case c_shot_of => k_is)
    (case k_shot_of => k_is)
    (case a_put => k_is)
    (case l_put => k_is)
    (case c_put => k_is)
    (case k_put => k_is)
    (case a_drop => k_is)
    (case l_drop => k_is)
    (case c_drop => k_is)
    (case k_drop => k_is)
    (case a_near_sign => k_is)
    (case l_near_sign => k_is)
    (case c_near_sign => k_is)
    (case k_near_sign => k_is)
    (case a_near_count => k_is)
    (case l_near_count => k_is)
    (case c_near_count => k_is)
    (case k_near_count => k_is)
    (case a_Ribbon_init => k_is)
    (case i_Ribbon_init => k_is)
    (case l_Ribbon_init => k_is)
    (case c_Ribbon_init => k_is)
    (case k_Ribbon_init => k_is)
    (case a_Ribbon_entry => k_is)
    (case i_Ribbon_entry => k_is)
    (case l_Ribbon_entry => k_is)
    (case c_Ribbon_entry => k_is)
    (case k_Ribbon_entry => k_is)
    (case a_Ribbon_leap => k_is)
    (case i_Ribbon_leap => k_is)
    (case l_Ribbon_leap => k_is)
    (case c_Ribbon_leap => k_is)
    (case k_Ribbon_leap => k_is)
    (case a_Ribbon_told => k_is)
    (case i_Ribbon_told => k_is)
    (case l_Ribbon_told => k_is)
    (case c_Ribbon_told => k_is)
    (case k_Ribbon_told => k_is)
    (case a_ask_for => k_is)
    (case l_ask_for => k_is)
    (case c_ask_for => k_is)
    (case k_ask_for => k_is)
    (case a_fast_from => k_is)
    (case l_fast_from => k_is)
    (case c_fast_from => k_is)
    (case k_fast_from => k_is)
    (case a_fast_after => k_is)
    (case l_fast_after => k_is)
    (case ud_fast_after => k_is)
    (case c_fast_after => k_is)
    (case k_fast_after => k_is)
    (case a__law_next => k_is)
    (case l__law_next => k_is)
    (case c__law_next => k_is)
    (case k__law_next => k_is)
    (case a__law_same => k_is)
    (case l__law_same => k_is)
    (case c__law_same => k_is)
    (case k__law_same => k_is)
    (case a__law_table => k_is)
    (case l__law_table => k_is)
    (case c__law_table => k_is)
    (case k__law_table => k_is)
    (case a__law_shot => k_is)
    (case l__law_shot => k_is)
    (case c__law_shot => k_is)
    (case k__law_shot => k_is)
    (case a__law_machine_by => k_is)
    (case l__law_machine_by => k_is)
    (case c__law_machine_by => k_is)
    (case k__law_machine_by => k_is)
    (case a__law_seen => k_is)
    (case l__law_seen => k_is)
    (case c__law_seen => k_is)
    (case k__law_seen => k_is)
    (case a__law_fast => k_is)
    (case l__law_fast => k_is)
    (case c__law_fast => k_is)
    (case k__law_fast => k_is)
    (case a__law_far => k_is)
    (case l__law_far => k_is)
    (case c__law_far => k_is)
    (case k__law_far => k_is)
    (case a__law_walk => k_is)
    (case l__law_walk => k_is)
    (case c__law_walk => k_is)
    (case k__law_walk => k_is)
    (case a__law_great_end => k_is)
    (case l__law_great_end => k_is)
    (case c__law_great_end => k_is)
    (case k__law_great_end => k_is)
    (case a__law_stretch => k_is)
    (case l__law_stretch => k_is)
    (case c__law_stretch => k_is)
    (case k__law_stretch => k_is)
    (case a_law => k_is)
    (case l_law => k_is)
    (case c_law => k_is)
    (case k_law => k_is)
    (case pg_Machine => k_is)
    (case hd_Machine => k_is)
    (case po_Machine => k_is)
    (case sa_Machine => k_is)
    (case mk_Machine => k_is)
    (case kc_Machine => k_is)
    (case n_Machine_table => k_is)
    (case pg_Ribbon => k_is)
    (case hd_Ribbon => k_is)
    (case po_Ribbon => k_is)
    (case sa_Ribbon => k_is)
    (case mk_Ribbon => k_is)
    (case kc_Ribbon => k_is)
    (case n_Ribbon_left => k_is)
    (case n_Ribbon_moved => k_is)
    (case n_Ribbon_now => k_is)
    (case n_Ribbon_right => k_is)
    (case n_Ribbon_table => k_is)
    (case z_all => k_is)
    (case z_bool => k_is)
    (case z_enumerate => k_is)
    (case z_int => k_is)
    (case z_isinstance => k_is)
    (case z_len => k_is)
    (case z_list => k_is)
    (case z_min => k_is)
    (case z_range => k_is)
    (case z_reversed => k_is)
    (case z_sorted => k_is)
    (case z_str => k_is)
    (case z_tuple => k_is)
    (case z_zip => k_is)
#print axioms PySem.Challenge.cw_tapeproof_k91_whole_fast_holds

